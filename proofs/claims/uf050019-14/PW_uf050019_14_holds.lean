import PyProof.Rows.All
import PySem.Entry
import PyProof.SliceList
import OpenK.KCell
import OpenK.KMeth
import OpenK.KMore
import KE.KListMore
import KE.KSetAt
import KE.KSortKey
import KE.KSortedM
import KE.KDictSum
import KE.KDictLetter
import KE.KRevIter
import PyProof.DictWalks
import PyProof.EnumStmt
import PyProof.Raises
import OpenK.KLine
import PyProof.EnumFor
import PyProof.EnumMake
import PyProof.Rows.TupAssign
import Wide.All
import OpenK.AllK
import Wide.FinOn
import PyProof.NsDelKeeps
import PyProof.StationsW
import PyProof.RulesAs
import PyProof.ExcBaseAll.ValueError
import KE.KTryMore
import PyProof.ExcArgs
import KE.KIsNot
import PyProof.SliceMore
import PySem.Challenge.RW_uf050019_14
set_option maxRecDepth 100000
set_option Elab.async false
set_option linter.unusedVariables false
set_option linter.unusedSimpArgs false
set_option genInjectivity false
set_option genSizeOf false
set_option bootstrap.genMatcherCode false
set_option tactic.hygienic false


namespace Hx
open PySem PySem.W
noncomputable def topT (ok : Thread → Bool) (st : SharedT → Thread → Option (SharedT × Thread)) (n : Nat) : SharedT → Thread → Option SharedT := Nat.rec (fun _ _ => none) (fun _ go s t => cond (through t) (some s) (cond (ok t) ((st s t).bind fun r => go r.1 r.2) none)) n
theorem topT_of {p : Program} {w : World} {s' : SharedT} (n : Nat) : ∀ (s : SharedT) (t : Thread), topT (stepOk 11 (some (.ref 6))) (stepT (denote treeTable) p w) n s t = some s' → topRun treeTable p w 11 (some (.ref 6)) n s.abs t = some s'.abs := by
  induction n with
  | zero => exact fun _ _ h => nomatch (show none = some s' from h)
  | succ n ih =>
    intro s t h
    have h : cond (through t) (some s) (cond (stepOk 11 (some (.ref 6)) t) ((stepT (denote treeTable) p w s t).bind fun r => topT (stepOk 11 (some (.ref 6))) (stepT (denote treeTable) p w) n r.1 r.2) none) = some s' := h
    unfold topRun
    cases e : through t with
    | true => rw [e] at h; exact congrArg (Option.map SharedT.abs) h
    | false =>
      rw [e] at h
      cases k : stepOk 11 (some (.ref 6)) t with
      | false => rw [k] at h; exact nomatch (show none = some s' from h)
      | true =>
        rw [k] at h
        obtain ⟨r, g, h⟩ := Option.bind_eq_some_iff.mp (show (stepT (denote treeTable) p w s t).bind _ = some s' from h)
        rw [stepT_spec (s' := r.1) (t' := r.2) g]
        exact ih r.1 r.2 h
noncomputable def s0 (w : World) (os : OsState) : SharedT := ⟨((boot_heap w.params).objs.toList.foldl (fun a o => (a.1.ins a.2 o, a.2 + 1)) (BT.nil, 0)).1, 11, (boot_heap w.params).life, #[], boot_drawn, boot_toks, os⟩
noncomputable def fine (mods : List Str) (p : Program) (w : World) (s : Shared) : Bool := staticsOk mods (boot_heap w.params) s.heap && namesBound p s.heap && gensDone s && laidKept (boot_heap w.params) s.heap
theorem size0 (w : World) : ((boot_heap w.params).isNs mainGlobals, (boot_heap w.params).objs.size, (boot_heap w.params).nsMap mainGlobals "__annotations__") = (true, 11, some (.ref 6)) := by kernel_rfl
theorem ends {p : Program} {N : Nat} (e : opening p = plainProg p.main.scope.names) (hN : Nat.ble 600 N = true) (fc : ∀ s, fenceModules? p s = some s)
    (run : ∀ w os, (topT (stepOk 11 (some (.ref 6))) (stepT (denote treeTable) p w) N (s0 w os) (topStub p)).map (fun t => fine (importedModules p.main.body) p w t.abs) = some true) (w : World) : ∃ os t, topT (stepOk 11 (some (.ref 6))) (stepT (denote treeTable) p w) N (s0 w os) (topStub p) = some t ∧ openEnds treeTable p w N = some t.abs := by
  obtain ⟨⟨h, gs, d, k, os⟩, hs, hv⟩ := Option.map_eq_some_iff.mp (boot_open e hN fc w)
  have e1 : h = boot_heap w.params := congrArg (·.1) hv
  have e2 : gs = #[] := congrArg (·.2.1) hv
  have e3 : d = boot_drawn := congrArg (·.2.2.1) hv
  have e4 : k = boot_toks := congrArg (·.2.2.2) hv
  subst e1 e2 e3 e4
  obtain ⟨t, ht, hr⟩ := Option.map_eq_some_iff.mp (run w os)
  refine ⟨os, t, ht, ?_⟩
  have r := topT_of _ _ _ ht
  rw [show (s0 w os).abs = ⟨boot_heap w.params, #[], boot_drawn, boot_toks, os⟩ by kernel_rfl] at r
  unfold openEnds
  rw [hs]
  show topFrom treeTable p w N _ = _
  unfold topFrom
  dsimp only
  rw [show (boot_heap w.params).isNs mainGlobals = true from congrArg (·.1) (size0 w), show (boot_heap w.params).objs.size = 11 from congrArg (·.2.1) (size0 w), show (boot_heap w.params).nsMap mainGlobals "__annotations__" = some (.ref 6) from congrArg (·.2.2) (size0 w), r]
  show (match fine (importedModules p.main.body) p w t.abs with | true => some t.abs | false => none : Option Shared) = _
  rw [hr]
theorem put {α : Type} {f : Shared → α} {v : α} {o : Option SharedT} {t : SharedT} (h : o.map (fun t => f t.abs) = some v) (e : o = some t) : f t.abs = v := by
  subst e; exact Option.some.inj h
theorem two {α β γ : Type} {f : α → β} {g : α → γ} {a : β} {b : γ} {o : Option α} (h : o.map (fun t => (f t, g t)) = some (a, b)) : o.map f = some a ∧ o.map g = some b := by
  cases o with
  | none => cases h
  | some t => cases h; exact ⟨rfl, rfl⟩
end Hx
namespace L14
open PySem PySem.W PyProof.Rows
noncomputable def stA (i : Nat) : Stmt := (PySem.Challenge.rw_uf050019_14.row.prog.main.body[i]?).getD (.Pass ⟨0, 0, 0, 0⟩)
noncomputable def stC (i j : Nat) : Stmt := match stA i with | .ClassDef _ _ _ b _ _ _ _ _ _ _ => (b[j]?).getD (.Pass ⟨0, 0, 0, 0⟩) | s => s
noncomputable def fArgs (s : Stmt) : Arguments := match s with | .FunctionDef _ a _ _ _ _ _ _ _ _ => a | _ => ⟨[], [], none, [], [], none, []⟩
noncomputable def fBody (s : Stmt) : List Stmt := match s with | .FunctionDef _ _ b _ _ _ _ _ _ _ => b | _ => []
noncomputable def fScope (s : Stmt) : Scope := match s with | .FunctionDef _ _ _ _ _ _ c _ _ _ => c | _ => PySem.Challenge.rw_uf050019_14.row.prog.main.scope
abbrev zS (s : String) : Str := Str.ofString s
abbrev zV (s : Str) (n : Nat) : Value := .str s n
abbrev zW (s : String) (n : Nat) : Value := .str (.ofString s) n
abbrev zJ (i : Int) (n : Nat) : Value := .int i n
abbrev zA {α : Type} (l : List α) : Array α := l.toArray
abbrev zO (c : Value) (d : Option Addr) (x : Data) (s : Array (Option Value)) : Obj := ⟨c, d, x, s⟩
abbrev zK (P : Params) (s : String) (n : Nat) (v : Value) : DictEntry := ⟨PyData.keyHash P (.ofString s), .str (.ofString s) n, v⟩
abbrev zT (l : List Value) : Obj := zO (.type "tuple") none (.seq (zA l) 0) (zA [])
noncomputable abbrev zG (a b : String) (p : Stmt) (m : Value) (r : Nat) : Obj := zO (.type "function") none (.func (PySem.FuncData.mk (zS a) (zS b) (fArgs p) (PySem.FuncBody.stmts (fBody p)) (fScope p) 3 [] .none .none .none m none (.ref r) .none 0)) (zA [])
abbrev zC (a : String) (n1 : Nat) (b : String) (n2 : Nat) (c : String) (n3 : Nat) (l k m : Int) (r1 : Nat) (f : Int) (r2 r3 r4 r5 : Nat) (x : Int) (n4 : Nat) : Obj := zO (.type "code") none (.fields (zA [zW a n1, zW b n2, zW c n3, zJ l 0, zJ k 0, zJ 0 0, zJ 0 0, zJ m 0, .ref r1, .bool true, zJ f 0, .ref r2, .none, .ref r3, .ref r4, .ref r5, zJ x 0, zJ l 0, zW c n4])) (zA [])
noncomputable def K : Params → Frag := fun P => [
    (2, (zO .none none (.dict (zA []) 0) (zA []))),
(3, (zO (.type "dict") none (.dict (zA [(zK P "__name__" 165 (zW "law_uf050019_14" 592)),(zK P "__doc__" 166 .none),(zK P "__package__" 167 .none),(zK P "__loader__" 168 (.builtin "__main__.__loader__#opaque")),(zK P "__spec__" 169 .none),(zK P "__annotations__" 170 (.ref 6)),(zK P "__builtins__" 171 (.ref 4)),(zK P "__file__" 173 (zW "/claim/cut.py" 172)),(zK P "__cached__" 174 .none),(zK P "LadderError" 206 (.ref 24)),(zK P "BadSize" 222 (.ref 37)),(zK P "OutOfRange" 238 (.ref 49)),(zK P "Present" 254 (.ref 61)),(zK P "Missing" 270 (.ref 73)),(zK P "NoLevel" 286 (.ref 85)),(zK P "NoPlace" 302 (.ref 97)),(zK P "OtherSize" 318 (.ref 109)),(zK P "power" 330 (.ref 118)),(zK P "thinned" 342 (.ref 125)),(zK P "tall" 354 (.ref 132)),(zK P "Ladder" 569 (.ref 273)),(zK P "cut" 581 (.ref 284)),(zK P "poured" 591 (.ref 291)),(zK P "_law_cell_at" 601 (.ref 298)),(zK P "_law_number" 609 (.ref 305)),(zK P "_law_deed" 620 (.ref 312)),(zK P "_law_told" 626 (.ref 317)),(zK P "_law_made" 637 (.ref 324)),(zK P "_law_refused" 646 (.ref 331)),(zK P "_law_refused_by_any" 656 (.ref 338)),(zK P "_law_half" 669 (.ref 345)),(zK P "_law_goes_on" 682 (.ref 352)),(zK P "_law_ends" 692 (.ref 359)),(zK P "_law_again" 698 (.ref 364)),(zK P "_law_woven" 712 (.ref 371)),(zK P "_law_is_there" 718 (.ref 376)),(zK P "_law_by_turns" 724 (.ref 381)),(zK P "_law_mated" 730 (.ref 386)),(zK P "_law_cut" 736 (.ref 391)),(zK P "law" 742 (.ref 396))]) 40) (zA []))),
(15, (zT [(.type "ValueError")])),
(22, (zT [])),
(23, (zO (.type "dict") none (.dict (zA [(zK P "__module__" 196 (zW "skipladder.errors" 187)),(zK P "__firstlineno__" 200 (zJ 2 199)),(zK P "__static_attributes__" 201 (.ref 22)),(zK P "__weakref__" 203 (.ref 25)),(zK P "__doc__" 204 .none)]) 3) (zA []))),
(24, (zO (.type "type") none (.cls (PySem.ClassData.mk (zS "LadderError") [(.type "ValueError")] [(.ref 24),(.type "ValueError"),(.type "Exception"),(.type "BaseException"),(.type "object")] 23 (zS "LadderError") true [] [(.ref 37),(.ref 49),(.ref 61),(.ref 73),(.ref 85),(.ref 97),(.ref 109)] false none false)) (zA [(Option.some (.ref 15)),(none),(Option.some (zW "LadderError" 189)),(Option.some (zW "LadderError" 197)),(Option.some (.builtin "ValueError.__new__")),(Option.some (.bool true))]))),
(25, (zO (.type "getset_descriptor") none (.fields (zA [(zW "__weakref__" 202),(.ref 24),(.builtin "ExceptionGroup.__weakref__"), .none])) (zA []))),
(28, (zT [(.ref 24)])),
(35, (zT [])),
(36, (zO (.type "dict") none (.dict (zA [(zK P "__module__" 214 (zW "skipladder.errors" 187)),(zK P "__firstlineno__" 218 (zJ 4 217)),(zK P "__static_attributes__" 219 (.ref 35)),(zK P "__doc__" 220 .none)]) 2) (zA []))),
(37, (zO (.type "type") none (.cls (PySem.ClassData.mk (zS "BadSize") [(.ref 24)] [(.ref 37),(.ref 24),(.type "ValueError"),(.type "Exception"),(.type "BaseException"),(.type "object")] 36 (zS "BadSize") true [] [] false none false)) (zA [(Option.some (.ref 28)),(none),(Option.some (zW "BadSize" 207)),(Option.some (zW "BadSize" 215)),(Option.some (.builtin "ValueError.__new__")),(Option.some (.bool true))]))),
(40, (zT [(.ref 24)])),
(47, (zT [])),
(48, (zO (.type "dict") none (.dict (zA [(zK P "__module__" 230 (zW "skipladder.errors" 187)),(zK P "__firstlineno__" 234 (zJ 6 233)),(zK P "__static_attributes__" 235 (.ref 47)),(zK P "__doc__" 236 .none)]) 2) (zA []))),
(49, (zO (.type "type") none (.cls (PySem.ClassData.mk (zS "OutOfRange") [(.ref 24)] [(.ref 49),(.ref 24),(.type "ValueError"),(.type "Exception"),(.type "BaseException"),(.type "object")] 48 (zS "OutOfRange") true [] [] false none false)) (zA [(Option.some (.ref 40)),(none),(Option.some (zW "OutOfRange" 223)),(Option.some (zW "OutOfRange" 231)),(Option.some (.builtin "ValueError.__new__")),(Option.some (.bool true))]))),
(52, (zT [(.ref 24)])),
(59, (zT [])),
(60, (zO (.type "dict") none (.dict (zA [(zK P "__module__" 246 (zW "skipladder.errors" 187)),(zK P "__firstlineno__" 250 (zJ 8 249)),(zK P "__static_attributes__" 251 (.ref 59)),(zK P "__doc__" 252 .none)]) 2) (zA []))),
(61, (zO (.type "type") none (.cls (PySem.ClassData.mk (zS "Present") [(.ref 24)] [(.ref 61),(.ref 24),(.type "ValueError"),(.type "Exception"),(.type "BaseException"),(.type "object")] 60 (zS "Present") true [] [] false none false)) (zA [(Option.some (.ref 52)),(none),(Option.some (zW "Present" 239)),(Option.some (zW "Present" 247)),(Option.some (.builtin "ValueError.__new__")),(Option.some (.bool true))]))),
(64, (zT [(.ref 24)])),
(71, (zT [])),
(72, (zO (.type "dict") none (.dict (zA [(zK P "__module__" 262 (zW "skipladder.errors" 187)),(zK P "__firstlineno__" 266 (zJ 10 265)),(zK P "__static_attributes__" 267 (.ref 71)),(zK P "__doc__" 268 .none)]) 2) (zA []))),
(73, (zO (.type "type") none (.cls (PySem.ClassData.mk (zS "Missing") [(.ref 24)] [(.ref 73),(.ref 24),(.type "ValueError"),(.type "Exception"),(.type "BaseException"),(.type "object")] 72 (zS "Missing") true [] [] false none false)) (zA [(Option.some (.ref 64)),(none),(Option.some (zW "Missing" 255)),(Option.some (zW "Missing" 263)),(Option.some (.builtin "ValueError.__new__")),(Option.some (.bool true))]))),
(76, (zT [(.ref 24)])),
(83, (zT [])),
(84, (zO (.type "dict") none (.dict (zA [(zK P "__module__" 278 (zW "skipladder.errors" 187)),(zK P "__firstlineno__" 282 (zJ 12 281)),(zK P "__static_attributes__" 283 (.ref 83)),(zK P "__doc__" 284 .none)]) 2) (zA []))),
(85, (zO (.type "type") none (.cls (PySem.ClassData.mk (zS "NoLevel") [(.ref 24)] [(.ref 85),(.ref 24),(.type "ValueError"),(.type "Exception"),(.type "BaseException"),(.type "object")] 84 (zS "NoLevel") true [] [] false none false)) (zA [(Option.some (.ref 76)),(none),(Option.some (zW "NoLevel" 271)),(Option.some (zW "NoLevel" 279)),(Option.some (.builtin "ValueError.__new__")),(Option.some (.bool true))]))),
(88, (zT [(.ref 24)])),
(95, (zT [])),
(96, (zO (.type "dict") none (.dict (zA [(zK P "__module__" 294 (zW "skipladder.errors" 187)),(zK P "__firstlineno__" 298 (zJ 14 297)),(zK P "__static_attributes__" 299 (.ref 95)),(zK P "__doc__" 300 .none)]) 2) (zA []))),
(97, (zO (.type "type") none (.cls (PySem.ClassData.mk (zS "NoPlace") [(.ref 24)] [(.ref 97),(.ref 24),(.type "ValueError"),(.type "Exception"),(.type "BaseException"),(.type "object")] 96 (zS "NoPlace") true [] [] false none false)) (zA [(Option.some (.ref 88)),(none),(Option.some (zW "NoPlace" 287)),(Option.some (zW "NoPlace" 295)),(Option.some (.builtin "ValueError.__new__")),(Option.some (.bool true))]))),
(100, (zT [(.ref 24)])),
(107, (zT [])),
(108, (zO (.type "dict") none (.dict (zA [(zK P "__module__" 310 (zW "skipladder.errors" 187)),(zK P "__firstlineno__" 314 (zJ 16 313)),(zK P "__static_attributes__" 315 (.ref 107)),(zK P "__doc__" 316 .none)]) 2) (zA []))),
(109, (zO (.type "type") none (.cls (PySem.ClassData.mk (zS "OtherSize") [(.ref 24)] [(.ref 109),(.ref 24),(.type "ValueError"),(.type "Exception"),(.type "BaseException"),(.type "object")] 108 (zS "OtherSize") true [] [] false none false)) (zA [(Option.some (.ref 100)),(none),(Option.some (zW "OtherSize" 303)),(Option.some (zW "OtherSize" 311)),(Option.some (.builtin "ValueError.__new__")),(Option.some (.bool true))]))),
(112, (zT [])),
(114, (zT [(zW "width" 324),(zW "level" 325),(zW "found" 326),(zW "turn" 327)])),
(115, (zT [])),
(117, (zC "power" 321 "power" 322 "/claim/cut.py" 323 19 2 3 112 181 113 114 115 116 328 329)),
(118, (zG "power" "power" (stA 10) (zW "skipladder.blocks" 319) 117)),
(119, (zT [])),
(121, (zT [(zW "width" 334),(zW "level" 335),(zW "row" 336),(zW "size" 337),(zW "found" 338),(zW "number" 339)])),
(122, (zT [])),
(124, (zC "thinned" 331 "thinned" 332 "/claim/cut.py" 333 24 3 3 119 181 120 121 122 123 340 341)),
(125, (zG "thinned" "thinned" (stA 11) (zW "skipladder.blocks" 319) 124)),
(126, (zT [])),
(128, (zT [(zW "width" 346),(zW "high" 347),(zW "before" 348),(zW "number" 349),(zW "many" 350),(zW "size" 351)])),
(129, (zT [])),
(131, (zC "tall" 343 "tall" 344 "/claim/cut.py" 345 31 4 3 126 181 127 128 129 130 352 353)),
(132, (zG "tall" "tall" (stA 12) (zW "skipladder.blocks" 319) 131)),
(140, (zT [])),
(142, (zT [(zW "self" 372),(zW "width" 373),(zW "high" 374)])),
(143, (zT [])),
(145, (zC "__init__" 369 "Ladder.__init__" 370 "/claim/cut.py" 371 43 3 3 140 181 141 142 143 144 375 376)),
(146, (zG "__init__" "Ladder.__init__" (stC 14 0) (zW "skipladder.ladder" 355) 145)),
(147, (zT [])),
(149, (zT [(zW "self" 381),(zW "number" 382),(zW "most" 383)])),
(150, (zT [])),
(152, (zC "need" 378 "Ladder.need" 379 "/claim/cut.py" 380 52 3 3 147 181 148 149 150 151 384 385)),
(153, (zG "need" "Ladder.need" (stC 14 1) (zW "skipladder.ladder" 355) 152)),
(154, (zT [])),
(156, (zT [(zW "self" 390),(zW "number" 391),(zW "low" 392),(zW "high" 393),(zW "middle" 394)])),
(157, (zT [])),
(159, (zC "lesser" 387 "Ladder.lesser" 388 "/claim/cut.py" 389 56 2 3 154 181 155 156 157 158 395 396)),
(160, (zG "lesser" "Ladder.lesser" (stC 14 2) (zW "skipladder.ladder" 355) 159)),
(161, (zT [])),
(163, (zT [(zW "self" 401),(zW "place" 402),(zW "behind" 403),(zW "before" 404),(zW "after" 405)])),
(164, (zT [])),
(166, (zC "neighbours" 398 "Ladder.neighbours" 399 "/claim/cut.py" 400 67 3 3 161 181 162 163 164 165 406 407)),
(167, (zG "neighbours" "Ladder.neighbours" (stC 14 3) (zW "skipladder.ladder" 355) 166)),
(168, (zT [])),
(170, (zT [(zW "self" 412),(zW "before" 413),(zW "number" 414),(zW "after" 415),(zW "found" 416),(zW "level" 417),(zW "goes" 418)])),
(171, (zT [])),
(173, (zC "leaving" 409 "Ladder.leaving" 410 "/claim/cut.py" 411 76 4 3 168 181 169 170 171 172 419 420)),
(174, (zG "leaving" "Ladder.leaving" (stC 14 4) (zW "skipladder.ladder" 355) 173)),
(175, (zT [])),
(177, (zT [(zW "self" 425),(zW "number" 426)])),
(178, (zT [])),
(180, (zC "has" 422 "Ladder.has" 423 "/claim/cut.py" 424 85 2 3 175 181 176 177 178 179 427 428)),
(181, (zO (.type "function") none (.func (PySem.FuncData.mk (zS "has") (zS "Ladder.has") (fArgs (stC 14 5)) (PySem.FuncBody.stmts (fBody (stC 14 5))) (fScope (stC 14 14)) 3 [] .none .none .none (zW "skipladder.ladder" 355) none (.ref 180) .none 0)) (zA []))),
(182, (zT [])),
(184, (zT [(zW "self" 433),(zW "number" 434),(zW "place" 435),(zW "pair" 436),(zW "changes" 437),(zW "level" 438),(zW "goes" 439)])),
(185, (zT [])),
(187, (zC "put" 430 "Ladder.put" 431 "/claim/cut.py" 432 89 2 3 182 181 183 184 185 186 440 441)),
(188, (zG "put" "Ladder.put" (stC 14 6) (zW "skipladder.ladder" 355) 187)),
(189, (zT [])),
(191, (zT [(zW "self" 446),(zW "number" 447),(zW "place" 448),(zW "pair" 449),(zW "changes" 450),(zW "level" 451),(zW "comes" 452)])),
(192, (zT [])),
(194, (zC "take" 443 "Ladder.take" 444 "/claim/cut.py" 445 104 2 3 189 181 190 191 192 193 453 454)),
(195, (zG "take" "Ladder.take" (stC 14 7) (zW "skipladder.ladder" 355) 194)),
(196, (zT [])),
(198, (zT [(zW "self" 459)])),
(199, (zT [])),
(201, (zC "row" 456 "Ladder.row" 457 "/claim/cut.py" 458 119 1 3 196 181 197 198 199 200 460 461)),
(202, (zG "row" "Ladder.row" (stC 14 8) (zW "skipladder.ladder" 355) 201)),
(203, (zT [])),
(205, (zT [(zW "self" 466),(zW "level" 467)])),
(206, (zT [])),
(208, (zC "level" 463 "Ladder.level" 464 "/claim/cut.py" 465 122 2 3 203 181 204 205 206 207 468 469)),
(209, (zG "level" "Ladder.level" (stC 14 9) (zW "skipladder.ladder" 355) 208)),
(210, (zT [])),
(212, (zT [(zW "self" 474),(zW "level" 475),(zW "number" 476),(zW "there" 477),(zW "at" 478),(zW "here" 479)])),
(213, (zT [])),
(215, (zC "ahead" 471 "Ladder.ahead" 472 "/claim/cut.py" 473 127 3 3 210 181 211 212 213 214 480 481)),
(216, (zG "ahead" "Ladder.ahead" (stC 14 10) (zW "skipladder.ladder" 355) 215)),
(217, (zT [])),
(219, (zT [(zW "self" 486),(zW "number" 487),(zW "level" 488),(zW "here" 489),(zW "found" 490),(zW "beside" 491)])),
(220, (zT [])),
(222, (zC "trail" 483 "Ladder.trail" 484 "/claim/cut.py" 485 137 2 3 217 181 218 219 220 221 492 493)),
(223, (zG "trail" "Ladder.trail" (stC 14 11) (zW "skipladder.ladder" 355) 222)),
(224, (zT [])),
(226, (zT [(zW "self" 498),(zW "number" 499),(zW "place" 500)])),
(227, (zT [])),
(229, (zC "below" 495 "Ladder.below" 496 "/claim/cut.py" 497 154 2 3 224 181 225 226 227 228 501 502)),
(230, (zG "below" "Ladder.below" (stC 14 12) (zW "skipladder.ladder" 355) 229)),
(231, (zT [])),
(233, (zT [(zW "self" 507),(zW "number" 508),(zW "place" 509)])),
(234, (zT [])),
(236, (zC "above" 504 "Ladder.above" 505 "/claim/cut.py" 506 161 2 3 231 181 232 233 234 235 510 511)),
(237, (zG "above" "Ladder.above" (stC 14 13) (zW "skipladder.ladder" 355) 236)),
(238, (zT [])),
(240, (zT [(zW "self" 516),(zW "number" 517)])),
(241, (zT [])),
(243, (zC "place" 513 "Ladder.place" 514 "/claim/cut.py" 515 168 2 3 238 181 239 240 241 242 518 519)),
(244, (zG "place" "Ladder.place" (stC 14 14) (zW "skipladder.ladder" 355) 243)),
(245, (zT [])),
(247, (zT [(zW "self" 524),(zW "place" 525)])),
(248, (zT [])),
(250, (zC "at" 521 "Ladder.at" 522 "/claim/cut.py" 523 172 2 3 245 181 246 247 248 249 526 527)),
(251, (zG "at" "Ladder.at" (stC 14 15) (zW "skipladder.ladder" 355) 250)),
(252, (zT [])),
(254, (zT [(zW "self" 532),(zW "place" 533),(zW "here" 534),(zW "left" 535),(zW "level" 536),(zW "found" 537),(zW "pair" 538)])),
(255, (zT [])),
(257, (zC "way" 529 "Ladder.way" 530 "/claim/cut.py" 531 177 2 3 252 181 253 254 255 256 539 540)),
(258, (zG "way" "Ladder.way" (stC 14 16) (zW "skipladder.ladder" 355) 257)),
(259, (zT [])),
(262, (zO (.type "code") none (.fields (zA [(zW "stretch" 542),(zW "Ladder.stretch" 543),(zW "/claim/cut.py" 544),(zJ 194 0),(zJ 3 0),(zJ 0 0),(zJ 0 0),(zJ 3 0),(.ref 259),(.bool true),(zJ 181 0),(.ref 260), .none, .none, .none, (.ref 261),(zJ 545 0),(zJ 194 0),(zW "/claim/cut.py" 546)])) (zA []))),
(263, (zG "stretch" "Ladder.stretch" (stC 14 17) (zW "skipladder.ladder" 355) 262)),
(264, (zT [])),
(266, (zT [(zW "self" 551),(zW "low" 552),(zW "high" 553)])),
(267, (zT [])),
(269, (zC "counted" 548 "Ladder.counted" 549 "/claim/cut.py" 550 199 3 3 264 181 265 266 267 268 554 555)),
(270, (zG "counted" "Ladder.counted" (stC 14 18) (zW "skipladder.ladder" 355) 269)),
(271, (zT [(zW "high" 557),(zW "kept" 558),(zW "limit" 559),(zW "many" 560),(zW "width" 561)])),
(272, (zO (.type "dict") none (.dict (zA [(zK P "__module__" 364 (zW "skipladder.ladder" 355)),(zK P "__firstlineno__" 368 (zJ 41 367)),(zK P "__init__" 377 (.ref 146)),(zK P "need" 386 (.ref 153)),(zK P "lesser" 397 (.ref 160)),(zK P "neighbours" 408 (.ref 167)),(zK P "leaving" 421 (.ref 174)),(zK P "has" 429 (.ref 181)),(zK P "put" 442 (.ref 188)),(zK P "take" 455 (.ref 195)),(zK P "row" 462 (.ref 202)),(zK P "level" 470 (.ref 209)),(zK P "ahead" 482 (.ref 216)),(zK P "trail" 494 (.ref 223)),(zK P "below" 503 (.ref 230)),(zK P "above" 512 (.ref 237)),(zK P "place" 520 (.ref 244)),(zK P "at" 528 (.ref 251)),(zK P "way" 541 (.ref 258)),(zK P "stretch" 547 (.ref 263)),(zK P "counted" 556 (.ref 270)),(zK P "__static_attributes__" 562 (.ref 271)),(zK P "__dict__" 564 (.ref 274)),(zK P "__weakref__" 566 (.ref 275)),(zK P "__doc__" 567 .none)]) 4) (zA []))),
(273, (zO (.type "type") none (.cls (PySem.ClassData.mk (zS "Ladder") [(.type "object")] [(.ref 273),(.type "object")] 272 (zS "Ladder") true [] [] false none false)) (zA [(none),(none),(Option.some (zW "Ladder" 357)),(Option.some (zW "Ladder" 365)),(Option.some (.builtin "object.__new__")),(Option.some (.bool true))]))),
(274, (zO (.type "getset_descriptor") none (.fields (zA [(zW "__dict__" 563),(.ref 273),(.builtin "function.__dict__"),(.builtin "function.__dict__#set")])) (zA []))),
(275, (zO (.type "getset_descriptor") none (.fields (zA [(zW "__weakref__" 565),(.ref 273),(.builtin "ExceptionGroup.__weakref__"), .none])) (zA []))),
(278, (zT [])),
(280, (zT [(zW "ladder" 575),(zW "number" 576),(zW "found" 577),(zW "one" 578)])),
(281, (zT [])),
(283, (zC "cut" 572 "cut" 573 "/claim/cut.py" 574 202 2 3 278 181 279 280 281 282 579 580)),
(284, (zG "cut" "cut" (stA 16) (zW "skipladder.parts" 570) 283)),
(285, (zT [])),
(287, (zT [(zW "ladder" 585),(zW "other" 586),(zW "row" 587),(zW "one" 588)])),
(288, (zT [])),
(290, (zC "poured" 582 "poured" 583 "/claim/cut.py" 584 211 2 3 285 181 286 287 288 289 589 590)),
(291, (zG "poured" "poured" (stA 17) (zW "skipladder.parts" 570) 290)),
(292, (zT [])),
(294, (zT [(zW "_law_script" 597),(zW "_law_k" 598)])),
(295, (zT [])),
(297, (zC "_law_cell_at" 594 "_law_cell_at" 595 "/claim/cut.py" 596 221 2 3 292 181 293 294 295 296 599 600)),
(298, (zG "_law_cell_at" "_law_cell_at" (stA 19) (zW "law_uf050019_14" 592) 297)),
(299, (zT [])),
(301, (zT [(zW "_law_cell" 605),(zW "_law_limit" 606)])),
(302, (zT [])),
(304, (zC "_law_number" 602 "_law_number" 603 "/claim/cut.py" 604 225 2 3 299 181 300 301 302 303 607 608)),
(305, (zG "_law_number" "_law_number" (stA 20) (zW "law_uf050019_14" 592) 304)),
(306, (zT [])),
(308, (zT [(zW "_law_ladder" 613),(zW "_law_row" 614),(zW "_law_cell" 615),(zW "_law_limit" 616),(zW "_law_number_here" 617)])),
(309, (zT [])),
(311, (zC "_law_deed" 610 "_law_deed" 611 "/claim/cut.py" 612 233 4 3 306 181 307 308 309 310 618 619)),
(312, (zG "_law_deed" "_law_deed" (stA 21) (zW "law_uf050019_14" 592) 311)),
(313, (zT [])),
(316, (zO (.type "code") none (.fields (zA [(zW "_law_told" 621),(zW "_law_told" 622),(zW "/claim/cut.py" 623),(zJ 243 0),(zJ 2 0),(zJ 0 0),(zJ 0 0),(zJ 3 0),(.ref 313),(.bool true),(zJ 181 0),(.ref 314), .none, .none, .none, (.ref 315),(zJ 624 0),(zJ 243 0),(zW "/claim/cut.py" 625)])) (zA []))),
(317, (zG "_law_told" "_law_told" (stA 22) (zW "law_uf050019_14" 592) 316)),
(318, (zT [])),
(320, (zT [(zW "_law_width" 630),(zW "_law_high" 631),(zW "_law_row" 632),(zW "_law_ladder" 633),(zW "_law_number_here" 634)])),
(321, (zT [])),
(323, (zC "_law_made" 627 "_law_made" 628 "/claim/cut.py" 629 258 3 3 318 181 319 320 321 322 635 636)),
(324, (zG "_law_made" "_law_made" (stA 23) (zW "law_uf050019_14" 592) 323)),
(325, (zT [])),
(327, (zT [(zW "_law_ladder" 641),(zW "_law_other" 642),(zW "e" 643)])),
(328, (zT [])),
(330, (zC "_law_refused" 638 "_law_refused" 639 "/claim/cut.py" 640 263 2 3 325 181 326 327 328 329 644 645)),
(331, (zG "_law_refused" "_law_refused" (stA 24) (zW "law_uf050019_14" 592) 330)),
(332, (zT [])),
(334, (zT [(zW "_law_ladder" 650),(zW "_law_number_here" 651),(zW "_law_refused_here" 652),(zW "e" 653)])),
(335, (zT [])),
(337, (zC "_law_refused_by_any" 647 "_law_refused_by_any" 648 "/claim/cut.py" 649 271 2 3 332 181 333 334 335 336 654 655)),
(338, (zG "_law_refused_by_any" "_law_refused_by_any" (stA 25) (zW "law_uf050019_14" 592) 337)),
(339, (zT [])),
(341, (zT [(zW "_law_ladder" 660),(zW "_law_row" 661),(zW "_law_spot" 662),(zW "_law_third" 663),(zW "_law_number_here" 664),(zW "_law_whole" 665),(zW "_law_due" 666)])),
(342, (zT [])),
(344, (zC "_law_half" 657 "_law_half" 658 "/claim/cut.py" 659 282 3 3 339 181 340 341 342 343 667 668)),
(345, (zG "_law_half" "_law_half" (stA 26) (zW "law_uf050019_14" 592) 344)),
(346, (zT [])),
(348, (zT [(zW "_law_ladder" 673),(zW "_law_part" 674),(zW "_law_row" 675),(zW "_law_rest" 676),(zW "_law_spot" 677),(zW "_law_fresh" 678),(zW "_law_left" 679)])),
(349, (zT [])),
(351, (zC "_law_goes_on" 670 "_law_goes_on" 671 "/claim/cut.py" 672 295 5 3 346 181 347 348 349 350 680 681)),
(352, (zG "_law_goes_on" "_law_goes_on" (stA 27) (zW "law_uf050019_14" 592) 351)),
(353, (zT [])),
(355, (zT [(zW "_law_ladder" 686),(zW "_law_gone" 687),(zW "_law_refused_here" 688),(zW "_law_level" 689)])),
(356, (zT [])),
(358, (zC "_law_ends" 683 "_law_ends" 684 "/claim/cut.py" 685 310 2 3 353 181 354 355 356 357 690 691)),
(359, (zG "_law_ends" "_law_ends" (stA 28) (zW "law_uf050019_14" 592) 358)),
(360, (zT [])),
(363, (zO (.type "code") none (.fields (zA [(zW "_law_again" 693),(zW "_law_again" 694),(zW "/claim/cut.py" 695),(zJ 326 0),(zJ 3 0),(zJ 0 0),(zJ 0 0),(zJ 3 0),(.ref 360),(.bool true),(zJ 181 0),(.ref 361), .none, .none, .none, (.ref 362),(zJ 696 0),(zJ 326 0),(zW "/claim/cut.py" 697)])) (zA []))),
(364, (zG "_law_again" "_law_again" (stA 29) (zW "law_uf050019_14" 592) 363)),
(365, (zT [])),
(367, (zT [(zW "_law_row" 702),(zW "_law_whole" 703),(zW "_law_size" 704),(zW "_law_spot" 705),(zW "_law_rows" 706),(zW "_law_one" 707),(zW "_law_two" 708),(zW "_law_due" 709)])),
(368, (zT [])),
(370, (zC "_law_woven" 699 "_law_woven" 700 "/claim/cut.py" 701 337 4 3 365 181 366 367 368 369 710 711)),
(371, (zG "_law_woven" "_law_woven" (stA 30) (zW "law_uf050019_14" 592) 370)),
(372, (zT [])),
(375, (zO (.type "code") none (.fields (zA [(zW "_law_is_there" 713),(zW "_law_is_there" 714),(zW "/claim/cut.py" 715),(zJ 347 0),(zJ 2 0),(zJ 0 0),(zJ 0 0),(zJ 3 0),(.ref 372),(.bool true),(zJ 181 0),(.ref 373), .none, .none, .none, (.ref 374),(zJ 716 0),(zJ 347 0),(zW "/claim/cut.py" 717)])) (zA []))),
(376, (zG "_law_is_there" "_law_is_there" (stA 31) (zW "law_uf050019_14" 592) 375)),
(377, (zT [])),
(380, (zO (.type "code") none (.fields (zA [(zW "_law_by_turns" 719),(zW "_law_by_turns" 720),(zW "/claim/cut.py" 721),(zJ 356 0),(zJ 4 0),(zJ 0 0),(zJ 0 0),(zJ 3 0),(.ref 377),(.bool true),(zJ 181 0),(.ref 378), .none, .none, .none, (.ref 379),(zJ 722 0),(zJ 356 0),(zW "/claim/cut.py" 723)])) (zA []))),
(381, (zG "_law_by_turns" "_law_by_turns" (stA 32) (zW "law_uf050019_14" 592) 380)),
(382, (zT [])),
(385, (zO (.type "code") none (.fields (zA [(zW "_law_mated" 725),(zW "_law_mated" 726),(zW "/claim/cut.py" 727),(zJ 377 0),(zJ 2 0),(zJ 0 0),(zJ 0 0),(zJ 3 0),(.ref 382),(.bool true),(zJ 181 0),(.ref 383), .none, .none, .none, (.ref 384),(zJ 728 0),(zJ 377 0),(zW "/claim/cut.py" 729)])) (zA []))),
(386, (zG "_law_mated" "_law_mated" (stA 33) (zW "law_uf050019_14" 592) 385)),
(387, (zT [])),
(390, (zO (.type "code") none (.fields (zA [(zW "_law_cut" 731),(zW "_law_cut" 732),(zW "/claim/cut.py" 733),(zJ 382 0),(zJ 4 0),(zJ 0 0),(zJ 0 0),(zJ 3 0),(.ref 387),(.bool true),(zJ 181 0),(.ref 388), .none, .none, .none, (.ref 389),(zJ 734 0),(zJ 382 0),(zW "/claim/cut.py" 735)])) (zA []))),
(391, (zG "_law_cut" "_law_cut" (stA 34) (zW "law_uf050019_14" 592) 390)),
(392, (zT [])),
(395, (zO (.type "code") none (.fields (zA [(zW "law" 737),(zW "law" 738),(zW "/claim/cut.py" 739),(zJ 415 0),(zJ 1 0),(zJ 0 0),(zJ 0 0),(zJ 3 0),(.ref 392),(.bool true),(zJ 181 0),(.ref 393), .none, .none, .none, (.ref 394),(zJ 740 0),(zJ 415 0),(zW "/claim/cut.py" 741)])) (zA []))),
(396, (zG "law" "law" (stA 35) (zW "law_uf050019_14" 592) 395))]
noncomputable abbrev H : Hook := kHook K [2, 3, 15, 22, 23, 24, 25, 28, 35, 36, 37, 40, 47, 48, 49, 52, 59, 60, 61, 64, 71, 72, 73, 76, 83, 84, 85, 88, 95, 96, 97, 100, 107, 108, 109, 112, 114, 115, 117, 118, 119, 121, 122, 124, 125, 126, 128, 129, 131, 132, 140, 142, 143, 145, 146, 147, 149, 150, 152, 153, 154, 156, 157, 159, 160, 161, 163, 164, 166, 167, 168, 170, 171, 173, 174, 175, 177, 178, 180, 181, 182, 184, 185, 187, 188, 189, 191, 192, 194, 195, 196, 198, 199, 201, 202, 203, 205, 206, 208, 209, 210, 212, 213, 215, 216, 217, 219, 220, 222, 223, 224, 226, 227, 229, 230, 231, 233, 234, 236, 237, 238, 240, 241, 243, 244, 245, 247, 248, 250, 251, 252, 254, 255, 257, 258, 259, 262, 263, 264, 266, 267, 269, 270, 271, 272, 273, 274, 275, 278, 280, 281, 283, 284, 285, 287, 288, 290, 291, 292, 294, 295, 297, 298, 299, 301, 302, 304, 305, 306, 308, 309, 311, 312, 313, 316, 317, 318, 320, 321, 323, 324, 325, 327, 328, 330, 331, 332, 334, 335, 337, 338, 339, 341, 342, 344, 345, 346, 348, 349, 351, 352, 353, 355, 356, 358, 359, 360, 363, 364, 365, 367, 368, 370, 371, 372, 375, 376, 377, 380, 381, 382, 385, 386, 387, 390, 391, 392, 395, 396] (fun _ => by kernel_rfl)
noncomputable abbrev q : Program := view PySem.Challenge.rw_uf050019_14.row.prog [1,
 2,
 3,
 4,
 5,
 6,
 7,
 8,
 10,
 11,
 12,
 14,
 16,
 17,
 19,
 20,
 21,
 22,
 23,
 24,
 25,
 26,
 27,
 28,
 29,
 30,
 31,
 32,
 33,
 34,
 35]
set_option maxHeartbeats 8000000
theorem ws : PySem.Challenge.rw_uf050019_14.wellSaid = true := by
  unfold OpenLaw.wellSaid OpenRow.wellSaid OpenRow.partSaid looksOpen
  repeat' with_reducible refine look_both ?_ ?_
  all_goals decide +kernel
theorem lA (w : World) (os : OsState) : (Hx.topT (stepOk 11 (some (.ref 6))) (stepT (denote treeTable) PySem.Challenge.rw_uf050019_14.row.prog w) 6588 (Hx.s0 w os) (topStub PySem.Challenge.rw_uf050019_14.row.prog)).map (fun t => (Hx.fine (importedModules PySem.Challenge.rw_uf050019_14.row.prog.main.body) PySem.Challenge.rw_uf050019_14.row.prog w t.abs, H.obs t.abs)) = some (true, H.val w) := by
  rewrite [PySem.W.Fast.te5923862056798008813, PySem.W.Fast.te10156331382660048174, PySem.W.Fast.te11892475500146522536, PySem.W.Fast.te6613529449190102663, PySem.W.Fast.te14364793385576792824]
  kernel_rfl
theorem lB (w : World) (os : OsState) : (Hx.topT (stepOk 11 (some (.ref 6))) (stepT (denote treeTable) PySem.Challenge.rw_uf050019_14.row.prog w) 6588 (Hx.s0 w os) (topStub PySem.Challenge.rw_uf050019_14.row.prog)).map (fun t => (openSeen q [] (importedModules PySem.Challenge.rw_uf050019_14.row.prog.main.body) (fun s => xlAt q [] s && recOk (RowW.records (OpenRow.toRowW PySem.Challenge.rw_uf050019_14.row)) s) true t.abs).1) = some ((openGood q []).1) := by
  rewrite [PySem.W.Fast.te4187177175401517315, PySem.W.Fast.te5923862056798008813, PySem.W.Fast.te10156331382660048174, PySem.W.Fast.te11892475500146522536, PySem.W.Fast.te6613529449190102663, PySem.W.Fast.te14364793385576792824]
  kernel_rfl
theorem lC (w : World) (os : OsState) : (Hx.topT (stepOk 11 (some (.ref 6))) (stepT (denote treeTable) PySem.Challenge.rw_uf050019_14.row.prog w) 6588 (Hx.s0 w os) (topStub PySem.Challenge.rw_uf050019_14.row.prog)).map (fun t => (openSeen q [] (importedModules PySem.Challenge.rw_uf050019_14.row.prog.main.body) (fun s => xlAt q [] s && recOk (RowW.records (OpenRow.toRowW PySem.Challenge.rw_uf050019_14.row)) s) true t.abs).2) = some ((openGood q []).2) := by
  rewrite [PySem.W.Fast.te4187177175401517315, PySem.W.Fast.te5923862056798008813, PySem.W.Fast.te10156331382660048174, PySem.W.Fast.te11892475500146522536, PySem.W.Fast.te6613529449190102663, PySem.W.Fast.te14364793385576792824]
  kernel_rfl
theorem left (w : World) : (openEnds treeTable PySem.Challenge.rw_uf050019_14.row.prog w 6588).map (fun s => (openSeen q [] (importedModules PySem.Challenge.rw_uf050019_14.row.prog.main.body) (fun s => xlAt q [] s && recOk (RowW.records (OpenRow.toRowW PySem.Challenge.rw_uf050019_14.row)) s) true s, H.obs s)) = some (openGood q [], H.val w) := by
  obtain ⟨os, t, ht, e⟩ := Hx.ends (by rfl) (by rfl) (fun s => by rfl) (fun w os => (Hx.two (lA w os)).1) w
  rw [e]
  exact congrArg some (Prod.ext (Prod.ext (Hx.put (f := fun s => (openSeen q [] (importedModules PySem.Challenge.rw_uf050019_14.row.prog.main.body) (fun s => xlAt q [] s && recOk (RowW.records (OpenRow.toRowW PySem.Challenge.rw_uf050019_14.row)) s) true s).1) (lB w os) ht) (Hx.put (f := fun s => (openSeen q [] (importedModules PySem.Challenge.rw_uf050019_14.row.prog.main.body) (fun s => xlAt q [] s && recOk (RowW.records (OpenRow.toRowW PySem.Challenge.rw_uf050019_14.row)) s) true s).2) (lC w os) ht)) (Hx.put (f := H.obs) (Hx.two (lA w os)).2 ht))
end L14
namespace Oz
theorem z {G:Prop}(h:∀ P:Prop,(G→P)→P):G:=h G id
abbrev g0 := @List.not_mem_nil
abbrev g1 := @List.mem_append
abbrev g2 := @Nat.le_trans
abbrev g3 := @Nat.le_refl
abbrev g4 := @List.getElem?_eq_some_iff
abbrev g5 := @Bool.and_eq_true
abbrev g6 := @List.mem_cons
abbrev g7 := @List.prefix_refl
abbrev g8 := @List.mem_map
abbrev g9 := @List.mem_singleton
abbrev g10 := @List.getElem?_eq_getElem
abbrev g11 := @Option.map_eq_some_iff
abbrev g12 := @List.getElem?_map
abbrev g13 := @List.length_map
abbrev g14 := @Bool.and_eq_true_iff
abbrev g15 := @List.mem_map_of_mem
abbrev g16 := @List.mem_of_getElem?
abbrev g17 := @List.nodup_append
abbrev g18 := @List.mem_append_left
abbrev g19 := @List.append_assoc
abbrev g20 := @List.nodup_cons
abbrev g21 := @List.getElem?_set_ne
abbrev g22 := @Option.bind_eq_some_iff
abbrev g23 := @List.getElem?_append_left
abbrev g24 := @List.mem_append_right
abbrev g25 := @List.mem_filter
abbrev g26 := @List.length_append
abbrev g27 := @Nat.lt_of_lt_of_le
abbrev g28 := @List.prefix_append
abbrev g29 := @List.getElem?_append_right
abbrev g30 := @List.pairwise_iff_getElem
inductive E2 {α0 α1:Type}(p:α0→α1→Prop):Prop | mk (a0:α0) (a1:α1) (h:p a0 a1):E2 p
inductive E3 {α0 α1 α2:Type}(p:α0→α1→α2→Prop):Prop | mk (a0:α0) (a1:α1) (a2:α2) (h:p a0 a1 a2):E3 p
inductive E4 {α0 α1 α2 α3:Type}(p:α0→α1→α2→α3→Prop):Prop | mk (a0:α0) (a1:α1) (a2:α2) (a3:α3) (h:p a0 a1 a2 a3):E4 p
inductive E5 {α0 α1 α2 α3 α4:Type}(p:α0→α1→α2→α3→α4→Prop):Prop | mk (a0:α0) (a1:α1) (a2:α2) (a3:α3) (a4:α4) (h:p a0 a1 a2 a3 a4):E5 p
inductive E6 {α0 α1 α2 α3 α4 α5:Type}(p:α0→α1→α2→α3→α4→α5→Prop):Prop | mk (a0:α0) (a1:α1) (a2:α2) (a3:α3) (a4:α4) (a5:α5) (h:p a0 a1 a2 a3 a4 a5):E6 p
inductive E7 {α0 α1 α2 α3 α4 α5 α6:Type}(p:α0→α1→α2→α3→α4→α5→α6→Prop):Prop | mk (a0:α0) (a1:α1) (a2:α2) (a3:α3) (a4:α4) (a5:α5) (a6:α6) (h:p a0 a1 a2 a3 a4 a5 a6):E7 p
inductive E8 {α0 α1 α2 α3 α4 α5 α6 α7:Type}(p:α0→α1→α2→α3→α4→α5→α6→α7→Prop):Prop | mk (a0:α0) (a1:α1) (a2:α2) (a3:α3) (a4:α4) (a5:α5) (a6:α6) (a7:α7) (h:p a0 a1 a2 a3 a4 a5 a6 a7):E8 p
inductive E12 {α0 α1 α2 α3 α4 α5 α6 α7 α8 α9 α10 α11:Type}(p:α0→α1→α2→α3→α4→α5→α6→α7→α8→α9→α10→α11→Prop):Prop | mk (a0:α0) (a1:α1) (a2:α2) (a3:α3) (a4:α4) (a5:α5) (a6:α6) (a7:α7) (a8:α8) (a9:α9) (a10:α10) (a11:α11) (h:p a0 a1 a2 a3 a4 a5 a6 a7 a8 a9 a10 a11):E12 p
inductive E14 {α0 α1 α2 α3 α4 α5 α6 α7 α8 α9 α10 α11 α12 α13:Type}(p:α0→α1→α2→α3→α4→α5→α6→α7→α8→α9→α10→α11→α12→α13→Prop):Prop | mk (a0:α0) (a1:α1) (a2:α2) (a3:α3) (a4:α4) (a5:α5) (a6:α6) (a7:α7) (a8:α8) (a9:α9) (a10:α10) (a11:α11) (a12:α12) (a13:α13) (h:p a0 a1 a2 a3 a4 a5 a6 a7 a8 a9 a10 a11 a12 a13):E14 p
inductive E16 {α0 α1 α2 α3 α4 α5 α6 α7 α8 α9 α10 α11 α12 α13 α14 α15:Type}(p:α0→α1→α2→α3→α4→α5→α6→α7→α8→α9→α10→α11→α12→α13→α14→α15→Prop):Prop | mk (a0:α0) (a1:α1) (a2:α2) (a3:α3) (a4:α4) (a5:α5) (a6:α6) (a7:α7) (a8:α8) (a9:α9) (a10:α10) (a11:α11) (a12:α12) (a13:α13) (a14:α14) (a15:α15) (h:p a0 a1 a2 a3 a4 a5 a6 a7 a8 a9 a10 a11 a12 a13 a14 a15):E16 p
noncomputable def atN:List Nat→Nat→Nat
 | [],_=>0
 | x::r,i=>Nat.rec x (fun j ζ=>atN r j) i
noncomputable def atI:List Int→Nat→Int
 | [],_=>0
 | x::r,i=>Nat.rec x (fun j ζ=>atI r j) i
set_option genCtorIdx false in
inductive NE where
 | a (i:Nat) | k (c:Nat) | p (x y:NE) | m (c:Nat) (x:NE)
set_option genCtorIdx false in
inductive IE where
 | a (i:Nat) | k (c:Int) | n (x:NE) | p (x y:IE) | s (x y:IE) | g (x:IE) | m (c:Int) (x:IE)
noncomputable def dN (r:List Nat):NE→Nat
 | .a i=>atN r i
 | .k c=>c
 | .p x y=>dN r x+dN r y
 | .m c x=>c*dN r x
noncomputable def dI (r:List Nat) (t:List Int):IE→Int
 | .a i=>atI t i
 | .k c=>c
 | .n x=>(dN r x:Int)
 | .p x y=>dI r t x+dI r t y
 | .s x y=>dI r t x - dI r t y
 | .g x=>- dI r t x
 | .m c x=>c*dI r t x
set_option genCtorIdx false in
inductive PF where
 | nle (x y:NE) | nlt (x y:NE) | neq (x y:NE) | ile (x y:IE) | ilt (x y:IE) | ieq (x y:IE) | fls | no (p:PF) | an (p q:PF) | or (p q:PF)
noncomputable def dP (r:List Nat) (t:List Int):PF→Prop
 | .nle x y=>dN r x≤dN r y
 | .nlt x y=>dN r x<dN r y
 | .neq x y=>dN r x=dN r y
 | .ile x y=>dI r t x≤dI r t y
 | .ilt x y=>dI r t x<dI r t y
 | .ieq x y=>dI r t x=dI r t y
 | .fls=>False
 | .no p=>¬ dP r t p
 | .an p q=>dP r t p∧dP r t q
 | .or p q=>dP r t p∨dP r t q
noncomputable def imp (r:List Nat) (t:List Int):List PF→PF→Prop
 | [],q=>dP r t q
 | p::ps,q=>dP r t p→imp r t ps q
structure LF where
 c:Int
 u:List Int
 v:List Int
noncomputable def addL:List Int→List Int→List Int
 | [],y=>y
 | x,[]=>x
 | a::x,b::y=>(a+b)::addL x y
noncomputable def one (i:Nat):List Int:=Nat.rec [1] (fun ζ l=>0::l) i
noncomputable def LF.add (x y:LF):LF:=⟨x.c+y.c,addL x.u y.u,addL x.v y.v⟩
noncomputable def LF.mul (m:Int) (x:LF):LF:=⟨m*x.c,x.u.map (m*·),x.v.map (m*·)⟩
noncomputable def lN:NE→LF
 | .a i=>⟨0,one i,[]⟩
 | .k c=>⟨c,[],[]⟩
 | .p x y=>(lN x).add (lN y)
 | .m c x=>(lN x).mul c
noncomputable def lI:IE→LF
 | .a i=>⟨0,[],one i⟩
 | .k c=>⟨c,[],[]⟩
 | .n x=>lN x
 | .p x y=>(lI x).add (lI y)
 | .s x y=>(lI x).add ((lI y).mul (-1))
 | .g x=>(lI x).mul (-1)
 | .m c x=>(lI x).mul c
noncomputable def db:List Nat→List Int→Int
 | x::r,a::l=>a*(x:Int)+db r l
 | _,_=>0
noncomputable def dp:List Int→List Int→Int
 | x::r,a::l=>a*x+dp r l
 | _,_=>0
noncomputable def val (r:List Nat) (t:List Int) (x:LF):Int:=x.c+db r x.u+dp t x.v
noncomputable def le (c:Int) (x y:LF):LF:=(y.add (x.mul (-1))).add ⟨-c,[],[]⟩
noncomputable def dn:PF→Bool→List (List (LF×Bool))
 | .nle x y,b=>if b then [[(le 0 (lN x) (lN y),false)]] else [[(le 1 (lN y) (lN x),false)]]
 | .nlt x y,b=>if b then [[(le 1 (lN x) (lN y),false)]] else [[(le 0 (lN y) (lN x),false)]]
 | .neq x y,b=>if b then [[(le 0 (lN x) (lN y),true)]] else [[(le 1 (lN x) (lN y),false)],[(le 1 (lN y) (lN x),false)]]
 | .ile x y,b=>if b then [[(le 0 (lI x) (lI y),false)]] else [[(le 1 (lI y) (lI x),false)]]
 | .ilt x y,b=>if b then [[(le 1 (lI x) (lI y),false)]] else [[(le 0 (lI y) (lI x),false)]]
 | .ieq x y,b=>if b then [[(le 0 (lI x) (lI y),true)]] else [[(le 1 (lI x) (lI y),false)],[(le 1 (lI y) (lI x),false)]]
 | .fls,b=>if b then [] else [[]]
 | .no p,b=>dn p (!b)
 | .an p q,b=>if b then (dn p true).flatMap (fun x=>(dn q true).map (x++·)) else dn p false++dn q false
 | .or p q,b=>if b then dn p true++dn q true else (dn p false).flatMap (fun x=>(dn q false).map (x++·))
theorem a4 (a b c d:Int):a+b+(c+d)=a+c+(b+d):=by rw [Int.add_assoc,Int.add_assoc,Int.add_left_comm b]
theorem Ia (r:List Nat):∀ x y:List Int,db r (addL x y)=db r x+db r y:=by
 induction r with
 | nil=>intro x y; cases x <;> cases y <;> rfl
 | cons a r ih =>
  intro x y
  cases x with
  | nil=>show db (a::r) y=0+db (a::r) y; rw [Int.zero_add]
  | cons b x=>cases y with
   | nil=>show db (a::r) (b::x)=db (a::r) (b::x)+0; rw [Int.add_zero]
   | cons c y =>
    show(b+c)*(a:Int)+db r (addL x y)=b*a+db r x+(c*a+db r y)
    rw [ih,Int.add_mul,a4]
theorem Id (r:List Int):∀ x y:List Int,dp r (addL x y)=dp r x+dp r y:=by
 induction r with
 | nil=>intro x y; cases x <;> cases y <;> rfl
 | cons a r ih =>
  intro x y
  cases x with
  | nil=>show dp (a::r) y=0+dp (a::r) y; rw [Int.zero_add]
  | cons b x=>cases y with
   | nil=>show dp (a::r) (b::x)=dp (a::r) (b::x)+0; rw [Int.add_zero]
   | cons c y =>
    show(b+c)*a+dp r (addL x y)=b*a+dp r x+(c*a+dp r y)
    rw [ih,Int.add_mul,a4]
theorem H9 (m:Int) (r:List Nat):∀ x:List Int,db r (x.map (m*·))=m*db r x:=by
 induction r with
 | nil=>intro x; cases x <;> exact(Int.mul_zero m).symm
 | cons a r ih =>
  intro x
  cases x with
  | nil=>exact(Int.mul_zero m).symm
  | cons b x =>
   show m*b*a+db r (x.map (m*·))=m*(b*a+db r x)
   rw [ih,Int.mul_add,Int.mul_assoc]
theorem Ic (m:Int) (r:List Int):∀ x:List Int,dp r (x.map (m*·))=m*dp r x:=by
 induction r with
 | nil=>intro x; cases x <;> exact(Int.mul_zero m).symm
 | cons a r ih =>
  intro x
  cases x with
  | nil=>exact(Int.mul_zero m).symm
  | cons b x =>
   show m*b*a+dp r (x.map (m*·))=m*(b*a+dp r x)
   rw [ih,Int.mul_add,Int.mul_assoc]
theorem H8 (r:List Nat):∀ i,db r (one i)=(atN r i:Int):=by
 induction r with
 | nil=>intro i; cases i <;> rfl
 | cons a r ih =>
  intro i
  cases i with
  | zero =>
   show 1*(a:Int)+db r []=a
   rw [Int.one_mul,show db r []=0 by cases r <;> rfl,Int.add_zero]
  | succ i =>
   show 0*(a:Int)+db r (one i)=_
   rw [ih,Int.zero_mul,Int.zero_add]; rfl
theorem Ib (r:List Int):∀ i,dp r (one i)=atI r i:=by
 induction r with
 | nil=>intro i; cases i <;> rfl
 | cons a r ih =>
  intro i
  cases i with
  | zero =>
   show 1*a+dp r []=a
   rw [Int.one_mul,show dp r []=0 by cases r <;> rfl,Int.add_zero]
  | succ i =>
   show 0*a+dp r (one i)=_
   rw [ih,Int.zero_mul,Int.zero_add]; rfl
section
variable (r:List Nat) (t:List Int)
theorem Bi:db r []=0:=by cases r <;> rfl
theorem Bk:dp t []=0:=by cases t <;> rfl
theorem pe (x y:LF):val r t (x.add y)=val r t x+val r t y:=by
 show x.c+y.c+db r (addL x.u y.u)+dp t (addL x.v y.v)=_
 rw [Ia,Id,a4 x.c y.c,a4 (x.c+db r x.u)]; rfl
theorem o9 (m:Int) (x:LF):val r t (x.mul m)=m*val r t x:=by
 show m*x.c+db r (x.u.map (m*·))+dp t (x.v.map (m*·))=m*(x.c+db r x.u+dp t x.v)
 rw [H9,Ic,Int.mul_add,Int.mul_add]
theorem B2 (x y:LF):val r t (x.add (y.mul (-1)))=val r t x - val r t y:=by
 rw [pe,o9,Int.neg_mul,Int.one_mul]; rfl
theorem vl (c:Int):val r t ⟨c,[],[]⟩=c:=by
 show c+db r []+dp t []=c
 rw [Bi,Bk,Int.add_zero,Int.add_zero]
theorem gm:∀ x,val r t (lN x)=(dN r x:Int)
 | .a i=>by
  show 0+db r (one i)+dp t []=(atN r i:Int)
  rw [H8,Bk,Int.add_zero,Int.zero_add]
 | .k c=>vl r t c
 | .p x y=>by
  rw [show lN (.p x y)=(lN x).add (lN y) from rfl,pe,gm x,gm y]
  exact(Int.natCast_add _ _).symm
 | .m c x=>by
  rw [show lN (.m c x)=(lN x).mul c from rfl,o9,gm x]
  exact(Int.natCast_mul _ _).symm
theorem f8:∀ x,val r t (lI x)=dI r t x
 | .a i=>by
  show 0+db r []+dp t (one i)=atI t i
  rw [Ib,Bi,Int.add_zero,Int.zero_add]
 | .k c=>vl r t c
 | .n x=>gm r t x
 | .p x y=>by rw [show lI (.p x y)=(lI x).add (lI y) from rfl,pe,f8 x,f8 y]; rfl
 | .s x y=>by rw [show lI (.s x y)=(lI x).add ((lI y).mul (-1)) from rfl,B2,f8 x,f8 y]; rfl
 | .g x=>by rw [show lI (.g x)=(lI x).mul (-1) from rfl,o9,f8 x,Int.neg_mul,Int.one_mul]; rfl
 | .m c x=>by rw [show lI (.m c x)=(lI x).mul c from rfl,o9,f8 x]; rfl
theorem Fh (c:Int) (x y:LF):val r t (le c x y)=val r t y - val r t x - c:=by
 unfold le
 rw [pe,B2,vl]; rfl
noncomputable def Iu (x:LF×Bool):Prop:=0≤val r t x.1∧(x.2=true→val r t x.1=0)
noncomputable def jm (l:List (List (LF×Bool))):Prop := ∃ a∈l,∀ x∈a,Iu r t x
theorem ip {c:Int}{x y:LF}(h:val r t x+c≤val r t y):jm r t [[(le c x y,false)]] :=
 ⟨_,.head _,fun z hz=>by
  cases Oz.g9.mp hz
  exact⟨by rw [Fh,Int.sub_sub]; exact Int.sub_nonneg_of_le h,nofun⟩⟩
theorem Cs {x y:LF}(h:val r t x=val r t y):jm r t [[(le 0 x y,true)]] :=
 ⟨_,.head _,fun z hz=>by
  cases Oz.g9.mp hz
  have:val r t (le 0 x y)=0:=by rw [Fh,h,Int.sub_self]; rfl
  exact⟨Int.le_of_eq this.symm,fun ζ=>this⟩⟩
theorem zv {a b:List (List (LF×Bool))}(h:jm r t a):jm r t (a++b):=h.elim fun x hx=>⟨x,Oz.g18 _ hx.1,hx.2⟩
theorem zu {a b:List (List (LF×Bool))}(h:jm r t b):jm r t (a++b):=h.elim fun x hx=>⟨x,Oz.g24 _ hx.1,hx.2⟩
theorem xz {a b:List (List (LF×Bool))}(h:jm r t a) (h' : jm r t b):jm r t (a.flatMap (fun x=>b.map (x++·))):=by
 refine Oz.z fun ζ η=>?_
 obtain⟨x,hx,gx⟩:=h
 obtain⟨y,hy,gy⟩:=h'
 refine η ?_
 exact⟨x++y,List.mem_flatMap.mpr ⟨x,hx,Oz.g8.mpr ⟨y,hy,rfl⟩⟩,fun z hz=>(Oz.g1.mp hz).elim (gx z) (gy z)⟩
theorem Cr {x y:LF}(h:val r t x≠val r t y):jm r t [[(le 1 x y,false)],[(le 1 y x,false)]]:=by
 rcases Int.lt_or_gt_of_ne h with q | q
 ·exact zv r t (a:=[[(le 1 x y,false)]]) (ip r t q)
 ·exact zu r t (a:=[[(le 1 x y,false)]]) (ip r t q)
theorem jk:∀ (p:PF) (b:Bool),(if b then dP r t p else ¬ dP r t p)→jm r t (dn p b)
 | .nle x y,true,h=>ip r t (by rw [gm,gm]; exact(Int.add_zero _).symm ▸ Int.ofNat_le.mpr h)
 | .nle x y,false,h=>ip r t (by rw [gm,gm]; exact Int.ofNat_lt.mpr (Nat.lt_of_not_le h))
 | .nlt x y,true,h=>ip r t (by rw [gm,gm]; exact Int.ofNat_lt.mpr h)
 | .nlt x y,false,h=>ip r t (by rw [gm,gm]; exact(Int.add_zero _).symm ▸ Int.ofNat_le.mpr (Nat.le_of_not_lt h))
 | .neq x y,true,h=>Cs r t (by rw [gm,gm]; exact congrArg Int.ofNat h)
 | .neq x y,false,h=>Cr r t (by rw [gm,gm]; exact fun e=>h (Int.ofNat.inj e))
 | .ile x y,true,h=>ip r t (by rw [f8,f8]; exact(Int.add_zero _).symm ▸ h)
 | .ile x y,false,h=>ip r t (by rw [f8,f8]; exact Int.not_le.mp h)
 | .ilt x y,true,h=>ip r t (by rw [f8,f8]; exact h)
 | .ilt x y,false,h=>ip r t (by rw [f8,f8]; exact(Int.add_zero _).symm ▸ Int.not_lt.mp h)
 | .ieq x y,true,h=>Cs r t (by rw [f8,f8]; exact h)
 | .ieq x y,false,h=>Cr r t (by rw [f8,f8]; exact h)
 | .fls,true,h=>h.elim
 | .fls,false,_=>⟨[],.head _,fun x hx=>by cases hx⟩
 | .no p,true,h=>jk p false h
 | .no p,false,h=>jk p true (Classical.byContradiction h)
 | .an p q,true,h=>xz r t (jk p true h.1) (jk q true h.2)
 | .an p q,false,h=>(Classical.em (dP r t p)).elim (fun a=>zu r t (jk q false fun b=>h ⟨a,b⟩)) (fun a=>zv r t (jk p false a))
 | .or p q,true,h=>h.elim (fun a=>zv r t (jk p true a)) (fun a=>zu r t (jk q true a))
 | .or p q,false,h=>xz r t (jk p false fun a=>h (.inl a)) (jk q false fun a=>h (.inr a))
noncomputable def sum:List (LF×Bool)→List Int→LF
 | x::xs,m::ms=>if x.2||decide (0≤m) then (x.1.mul m).add (sum xs ms) else sum xs ms
 | _,_=>⟨0,[],[]⟩
theorem zr:∀ (xs:List (LF×Bool)) (ms:List Int),(∀ x∈xs,Iu r t x)→0≤val r t (sum xs ms)
 | [],_,_=>by show 0≤val r t ⟨0,[],[]⟩; rw [vl]; exact Int.le_refl 0
 | _::_,[],_=>by show 0≤val r t ⟨0,[],[]⟩; rw [vl]; exact Int.le_refl 0
 | x::xs,m::ms,h=>by
  have ih:=zr xs ms (fun y hy=>h y (.tail _ hy))
  obtain⟨g1,g2⟩:=h x (.head _)
  show 0≤val r t (if x.2||decide (0≤m) then (x.1.mul m).add (sum xs ms) else sum xs ms)
  by_cases c:(x.2||decide (0≤m))=true
  ·rw [if_pos c,pe,o9]
   have:0≤m*val r t x.1:=by
    rcases Bool.or_eq_true_iff.mp c with q | q
    ·rw [g2 q,Int.mul_zero]; exact Int.le_refl 0
    ·exact Int.mul_nonneg (of_decide_eq_true q) g1
   omega
  ·rw [if_neg c]; exact ih
noncomputable def neg (x:LF):Bool:=decide (x.c<0)&&x.u.all (fun a=>decide (a≤0))&&x.v.all (fun a=>decide (a=0))
theorem Bj:∀ (r:List Nat) (l:List Int),l.all (fun a=>decide (a≤0))=true→db r l≤0
 | [],_,_=>Int.le_refl 0
 | _::_,[],_=>Int.le_refl 0
 | x::r,a::l,h=>by
  obtain⟨h1,h2⟩:=Oz.g14.mp (show(decide (a≤0)&&l.all fun a=>decide (a≤0))=true from h)
  have ih:=Bj r l h2
  have:=Int.mul_le_mul_of_nonneg_right (of_decide_eq_true h1:a≤0) (Int.natCast_nonneg x)
  rw [Int.zero_mul] at this
  show a*(x:Int)+db r l≤0
  omega
theorem yy:∀ (r:List Int) (l:List Int),l.all (fun a=>decide (a=0))=true→dp r l=0
 | [],_,_=>rfl
 | _::_,[],_=>rfl
 | x::r,a::l,h=>by
  obtain⟨h1,h2⟩:=Oz.g14.mp (show(decide (a=0)&&l.all fun a=>decide (a=0))=true from h)
  show a*x+dp r l=0
  rw [of_decide_eq_true h1,yy r l h2,Int.zero_mul]; rfl
theorem Ka {x:LF}(h:neg x=true):val r t x<0:=by
 obtain⟨h1,h2⟩:=Oz.g14.mp h
 obtain⟨h0,h1⟩:=Oz.g14.mp h1
 have a:=of_decide_eq_true h0
 have b:=Bj r x.u h1
 have c:=yy t x.v h2
 unfold val
 omega
noncomputable def go:List (List (List (LF×Bool)))→List (LF×Bool)→List (List Int)→Option (List (List Int))
 | [],acc,m::ms=>if neg (sum acc m) then some ms else Option.none
 | [],_,[]=>Option.none
 | al::rest,acc,ms=>al.foldl (fun o a=>o.bind fun ms=>go rest (acc++a) ms) (some ms)
theorem yv {α β:Type}(f:α→β→Option β):∀ l:List α,l.foldl (fun o a=>o.bind (f a)) Option.none=Option.none
 | []=>rfl
 | _::l=>yv f l
theorem yu {α β:Type}(f:α→β→Option β):∀ (l:List α) (x y:β),l.foldl (fun o a=>o.bind (f a)) (some x)=some y→∀ a∈l,∃ x' y',f a x'=some y'
 | [],_,_,_=>fun a ha=>by cases ha
 | b::l,x,y,h=>by
  have h:l.foldl (fun o a=>o.bind (f a)) (f b x)=some y:=h
  cases e:f b x with
  | none=>rw [e,yv] at h; cases h
  | some z =>
   rw [e] at h
   intro a ha
   rcases Oz.g6.mp ha with rfl | ha
   ·exact⟨x,z,e⟩
   ·exact yu f l z y h a ha
theorem I4:∀ (hs:List (List (List (LF×Bool)))) (acc:List (LF×Bool)) (ms ms' : List (List Int)),go hs acc ms=some ms'→(∀ x∈acc,Iu r t x)→(∀ h∈hs,jm r t h)→False
 | [],acc,m::ms,ms',e,ga,_=>by
  have e:(if neg (sum acc m) then some ms else Option.none)=some ms' := e
  by_cases c:neg (sum acc m)=true
  ·have:=Ka r t c
   have:=zr r t acc m ga
   omega
  ·rw [if_neg c] at e; cases e
 | [],_,[],_,e,_,_=>by cases e
 | al::rest,acc,ms,ms',e,ga,gh=>by
  refine Oz.z fun ζ η=>?_
  obtain⟨a,ha,g⟩:=gh al (.head _)
  obtain⟨x,y,e'⟩:=yu (fun a ms=>go rest (acc++a) ms) al ms ms' e a ha
  refine η ?_
  exact I4 rest (acc++a) x y e' (fun z hz=>(Oz.g1.mp hz).elim (ga z) (g z)) (fun h hh=>gh h (.tail _ hh))
noncomputable def chk (ps:List PF) (q:PF) (ms:List (List Int)):Bool:=(go (dn q false::ps.map (dn · true)) [] ms).isSome
theorem Fw:∀ (ps:List PF) (q:PF),((∀ p∈ps,dP r t p)→dP r t q)→imp r t ps q
 | [],q,h=>h fun p hp=>by cases hp
 | p::ps,q,h=>fun hp=>Fw ps q fun hs=>h fun x hx=>by
  rcases Oz.g6.mp hx with rfl | hx
  ·exact hp
  ·exact hs x hx
theorem lin (ps:List PF) (q:PF) (ms:List (List Int)) (h:chk ps q ms=true):imp r t ps q :=
 Fw r t ps q fun hp=>Classical.byContradiction fun no=>by
  obtain⟨y,e⟩:=Option.isSome_iff_exists.mp h
  exact I4 r t _ _ _ _ e (fun x hx=>by cases hx) (fun h hh=>by
   rcases Oz.g6.mp hh with rfl | hh
   ·exact jk r t q false no
   ·obtain⟨p,hp',rfl⟩:=Oz.g8.mp hh
    exact jk r t p true (hp p hp'))
end
theorem sbF (a b:Nat):(a≤b∧a - b=0)∨(b≤a∧(a - b)+b=a):=(Nat.le_total a b).elim (fun h=>.inl ⟨h,Nat.sub_eq_zero_of_le h⟩) (fun h=>.inr ⟨h,Nat.sub_add_cancel h⟩)
theorem mnF (a b:Nat):(a≤b∧min a b=a)∨(b≤a∧min a b=b):=(Nat.le_total a b).elim (fun h=>.inl ⟨h,Nat.min_eq_left h⟩) (fun h=>.inr ⟨h,Nat.min_eq_right h⟩)
theorem tnF (x:Int):(0≤x∧(x.toNat:Int)=x)∨(x≤0∧x.toNat=0):=(Int.le_total 0 x).elim (fun h=>.inl ⟨h,Int.toNat_of_nonneg h⟩) (fun h=>.inr ⟨h,Int.toNat_of_nonpos h⟩)
theorem naF (x:Int):(0≤x∧(x.natAbs:Int)=x)∨(x≤0∧(x.natAbs:Int)=-x):=(Int.le_total 0 x).elim (fun h=>.inl ⟨h,Int.natAbs_of_nonneg h⟩) (fun h=>.inr ⟨h,Int.ofNat_natAbs_of_nonpos h⟩)
theorem dvF (a c:Nat) (h:0<c):c*(a / c)≤a∧a<c*(a / c+1):=⟨Nat.mul_div_le a c,Nat.lt_mul_div_succ a h⟩
theorem dvI (a c:Int) (h:0<c):c*(a / c)≤a∧a<c*(a / c+1):=by
 have h1:=Int.mul_ediv_add_emod a c
 have h2:=Int.emod_nonneg a (Int.ne_of_gt h)
 have h3:=Int.emod_lt_of_pos a h
 rw [Int.mul_add,Int.mul_one]
 constructor <;> omega
end Oz
namespace Oz
noncomputable abbrev NE.a0:NE:=.a 0
noncomputable abbrev NE.a1:NE:=.a 1
noncomputable abbrev NE.a2:NE:=.a 2
noncomputable abbrev NE.a3:NE:=.a 3
noncomputable abbrev NE.a4:NE:=.a 4
noncomputable abbrev NE.a5:NE:=.a 5
noncomputable abbrev NE.a6:NE:=.a 6
noncomputable abbrev NE.a7:NE:=.a 7
noncomputable abbrev NE.a8:NE:=.a 8
noncomputable abbrev NE.a9:NE:=.a 9
noncomputable abbrev NE.a10:NE:=.a 10
noncomputable abbrev NE.a11:NE:=.a 11
noncomputable abbrev NE.a12:NE:=.a 12
noncomputable abbrev NE.a13:NE:=.a 13
noncomputable abbrev NE.a14:NE:=.a 14
noncomputable abbrev NE.a15:NE:=.a 15
noncomputable abbrev IE.a0:IE:=.a 0
noncomputable abbrev IE.a1:IE:=.a 1
noncomputable abbrev IE.a2:IE:=.a 2
noncomputable abbrev IE.a3:IE:=.a 3
noncomputable abbrev IE.a4:IE:=.a 4
noncomputable abbrev IE.a5:IE:=.a 5
noncomputable abbrev IE.a6:IE:=.a 6
noncomputable abbrev IE.a7:IE:=.a 7
noncomputable abbrev IE.a8:IE:=.a 8
noncomputable abbrev IE.a9:IE:=.a 9
noncomputable abbrev IE.a10:IE:=.a 10
noncomputable abbrev IE.a11:IE:=.a 11
noncomputable abbrev IE.a12:IE:=.a 12
noncomputable abbrev IE.a13:IE:=.a 13
noncomputable abbrev IE.a14:IE:=.a 14
noncomputable abbrev IE.a15:IE:=.a 15
noncomputable abbrev NE.k0:NE:=.k 0
noncomputable abbrev NE.k1:NE:=.k 1
noncomputable abbrev IE.k0:IE:=.k 0
noncomputable abbrev IE.k1:IE:=.k 1
theorem o1 {x y:Nat}:x<y→x≤y:=(Nat.le_of_lt)
theorem o2 {x y z:Nat}:x<z→z=y→x<y:=lin [x,z,y] [] [.nlt .a0 .a1,.neq .a1 .a2] (.nlt .a0 .a2) [[1,1,1]] rfl
theorem o3 {x y z u v:Nat}:x+u≤z→y<v→v=u→x+y<z:=lin [x,u,z,y,v] [] [.nle (.p .a0 .a1) .a2,.nlt .a3 .a4,.neq .a4 .a1] (.nlt (.p .a0 .a3) .a2) [[1,1,1,1]] rfl
theorem o4 {x y z u v:Nat}:x+u≤z→v=u→y<v→x+y<z:=lin [x,u,z,v,y] [] [.nle (.p .a0 .a1) .a2,.neq .a3 .a1,.nlt .a4 .a3] (.nlt (.p .a0 .a4) .a2) [[1,1,1,1]] rfl
theorem o5 {x:Nat}:0≤x:=(Nat.zero_le _)
theorem o6 {x:Nat}:0≤0∨0=x:=lin [x] [] [] (.or (.nle .k0 .k0) (.neq .k0 .a0)) [[1],[0,1]] rfl
theorem o16 {x y:Nat}:x≤y→x≤y:=(id)
theorem o34 {x y:Nat}:x<y+1→x ≥ y→x=y:=lin [x,y] [] [.nlt .a0 (.p .a1 .k1),.nle .a1 .a0] (.neq .a0 .a1) [[1,0,1],[1,1]] rfl
theorem o35 {x y:Nat}:x<y→x≤y - 1:=fun h0=>lin [x,y,(y - 1)] [] [.nlt .a0 .a1,.or (.an (.nle .a1 .k1) (.neq .a2 .k0)) (.an (.nle .k1 .a1) (.neq (.p .a2 .k1) .a1))] (.nle .a0 .a2) [[1,1,1,-1],[1,1,0,-1]] rfl h0 (sbF y 1)
theorem o45 {x y:Int}:x≤y→x≠y→x<y:=lin [] [x,y] [.ile .a0 .a1,.no (.ieq .a0 .a1)] (.ilt .a0 .a1) [[1,0,1],[0,1,1]] rfl
theorem o50 {x y:Int}:x<y→x≤y:=(Int.le_of_lt)
theorem o83 {x y z:Int}:x<z→z≤y→x<y:=(Int.lt_of_lt_of_le)
theorem o117 {x y:Nat}:x≤y→x+(y - x)=y:=(Nat.add_sub_cancel')
theorem o124 {x y:Nat}:x≤x+y:=(Nat.le_add_right _ _)
theorem o127 {x y z:Int}:z≤y→x≤z→x≤y:=(fun a b=>Int.le_trans b a)
theorem o139 {x y z:Int}:z<y→x≤z→x<y:=(fun a b=>Int.lt_of_le_of_lt b a)
theorem o165 {x y:Nat}:x<y→x<y+1:=(Nat.lt_succ_of_lt)
theorem o166 {x y:Nat}:x - y=0→x - y=0:=(id)
theorem o167 {x y:Nat}:x<y→x≠y:=(Nat.ne_of_lt)
theorem o168 {x:Int}:2≤x→0<x:=(fun h=>Int.lt_of_lt_of_le (by decide) h)
theorem o169 {x:Nat}:x=0→¬0<(x:Int):=lin [x] [] [.neq .a0 .k0,.ilt .k0 (.n .a0)] .fls [[1,1]] rfl
theorem o170 {x:Nat}:1≤x→x=x - 1+1:=fun h0=>lin [x,(x - 1)] [] [.nle .k1 .a0,.or (.an (.nle .a0 .k1) (.neq .a1 .k0)) (.an (.nle .k1 .a0) (.neq (.p .a1 .k1) .a0))] (.neq .a0 (.p .a1 .k1)) [[1,1,0,1],[1,0,0,1],[1,0,1,-1],[1,0,0,-1]] rfl h0 (sbF x 1)
theorem o171 {x y:Nat}:x=y+1→0<(x:Int):=lin [x,y] [] [.neq .a0 (.p .a1 .k1)] (.ilt .k0 (.n .a0)) [[1,-1]] rfl
theorem o172 {x y:Nat}:x=y+1→(x:Int) - 1=(y:Int):=lin [x,y] [] [.neq .a0 (.p .a1 .k1)] (.ieq (.s (.n .a0) .k1) (.n .a1)) [[1,-1],[1,1]] rfl
theorem o173 {x y:Nat}:y<x→x≠y:=(Nat.ne_of_gt)
theorem o178 {x y:Int}:x<y→x≤y - 1:=lin [] [x,y] [.ilt .a0 .a1] (.ile .a0 (.s .a1 .k1)) [[1,1]] rfl
theorem o179 {x y:Int}:¬y<x→x≤y:=(Int.not_lt.mp)
theorem o180 {x:Nat}:x≤12→(x:Int)≤12:=(Int.ofNat_le.mpr)
theorem o181 {x:Int}:2≤x→0≤x:=(fun h=>Int.le_trans (by decide) h)
theorem o190 {x y:Int}:x=y→¬x<y:=lin [] [x,y] [.ieq .a0 .a1,.ilt .a0 .a1] .fls [[-1,1]] rfl
theorem o191 {x y:Int}:x≤y→¬x=y→x<y:=lin [] [x,y] [.ile .a0 .a1,.no (.ieq .a0 .a1)] (.ilt .a0 .a1) [[1,0,1],[0,1,1]] rfl
theorem o192 {x:Nat}:x≤x+1:=(Nat.le_succ _)
theorem o193 {x:Nat}:x+1 - x=1:=(Nat.add_sub_cancel_left ..)
theorem o194 {x y:Int}:x≤y→x≤y:=(id)
theorem o195 {x y:Int}:x<y→¬x=y:=(Int.ne_of_lt)
theorem o197 {x y z:Int}:z<z→x≤y:=lin [] [z,x,y] [.ilt .a0 .a0] (.ile .a1 .a2) [[0,1]] rfl
theorem o198 {x y z u:Int}:z<u→u<z→x≤y:=lin [] [z,u,x,y] [.ilt .a0 .a1,.ilt .a1 .a0] (.ile .a2 .a3) [[0,1,1]] rfl
theorem o199 {x y z u:Int}:z<u→u≤z→x<y:=lin [] [z,u,x,y] [.ilt .a0 .a1,.ile .a1 .a0] (.ilt .a2 .a3) [[0,1,1]] rfl
theorem o200 {x y:Int}:x≤y→y≤x→x=y:=(Int.le_antisymm)
theorem o201 {x y z u v:Int}:z<u→z=v+x→u=v+y→x<y:=lin [] [z,u,v,x,y] [.ilt .a0 .a1,.ieq .a0 (.p .a2 .a3),.ieq .a1 (.p .a2 .a4)] (.ilt .a3 .a4) [[1,1,-1,1]] rfl
theorem o202 {x y z:Int}:x≤z→¬y≤z→x<y:=lin [] [x,z,y] [.ile .a0 .a1,.no (.ile .a2 .a1)] (.ilt .a0 .a2) [[1,1,1]] rfl
theorem o203 {x y z u:Int}:u<z→x+(y - 1 - z)<x+(y - 1 - u):=lin [] [u,z,x,y] [.ilt .a0 .a1] (.ilt (.p .a2 (.s (.s .a3 .k1) .a1)) (.p .a2 (.s (.s .a3 .k1) .a0))) [[1,1]] rfl
theorem o204 {x y z u:Int}:u<y→0≤z→x+(y - 1 - z)<x+y+(y - 1 - u):=lin [] [u,y,z,x] [.ilt .a0 .a1,.ile .k0 .a2] (.ilt (.p .a3 (.s (.s .a1 .k1) .a2)) (.p (.p .a3 .a1) (.s (.s .a1 .k1) .a0))) [[1,1,1]] rfl
theorem o205 {x:Nat}:0≤(x:Int):=(Int.natCast_nonneg _)
theorem o206 {x y z:Int}:z<y→0≤x→0≤x+(y - 1 - z):=lin [] [z,y,x] [.ilt .a0 .a1,.ile .k0 .a2] (.ile .k0 (.p .a2 (.s (.s .a1 .k1) .a0))) [[1,1,1]] rfl
theorem o207 {x:Int}:0≤x→1≤x+1:=(Int.lt_add_one_of_le)
theorem o208 {x:Int}{y:Nat}{z:Int}:x<z→z≤(↑(y+1):Int)→x≤(y:Int):=lin [y] [x,z] [.ilt .a0 .a1,.ile .a1 (.n (.p .a0 .k1))] (.ile .a0 (.n .a0)) [[1,1,1]] rfl
theorem o209 {x:Nat}{y z:Int}:z<y→(x:Int)≤z+1→(x:Int)≤y:=(fun a b=>Int.le_trans b a)
theorem o210 {x:Int}:0<x→1≤x:=(Int.add_one_le_of_lt)
theorem o211 {x y z:Int}:0≤y→y<z→z≤x→0≤x:=lin [] [y,z,x] [.ile .k0 .a0,.ilt .a0 .a1,.ile .a1 .a2] (.ile .k0 .a2) [[1,1,1,1]] rfl
theorem o212 {x:Int}:x≤(↑(Int.toNat x):Int):=lin [(Int.toNat x)] [x] [.or (.an (.ile .k0 .a0) (.ieq (.n .a0) .a0)) (.an (.ile .a0 .k0) (.neq .a0 .k0))] (.ile .a0 (.n .a0)) [[1,0,-1],[1,1,-1]] rfl (tnF x)
theorem o213 {x:Nat}{y z u:Int}:0≤u→(x:Int)≤y+(z - 1 - u)+1→(x:Int)+1≤y+z+1:=lin [x] [u,y,z] [.ile .k0 .a0,(.ile (.n .a0) (.p (.p .a1 (.s (.s .a2 .k1) .a0)) .k1))] (.ile (.p (.n .a0) .k1) (.p (.p .a1 .a2) .k1)) [[1,1,1]] rfl
theorem o214:(0:Nat)<(1:Nat):=(Nat.lt_succ_self _)
theorem o240 {x y:Nat}:x+14<y→x<y:=lin [x,y] [] [.nlt (.p .a0 (.k 14)) .a1] (.nlt .a0 .a1) [[1,1]] rfl
theorem o241 {x y:Int}:x≤y→x<y+1:=(Int.lt_add_one_of_le)
theorem o242 {x y:Int}:¬x≤y→¬x<y+1:=lin [] [x,y] [.no (.ile .a0 .a1),.ilt .a0 (.p .a1 .k1)] .fls [[1,1]] rfl
theorem o243 {x:Nat}:¬(↑(x+1):Int)=0:=lin [x] [] [.ieq (.n (.p .a0 .k1)) .k0] .fls [[1]] rfl
theorem o244 {x y:Nat}:x+1≤y→x<y:=(Nat.succ_le_of_lt)
theorem o245 {x:Nat}:(↑(x+1):Int) - 1=(x:Int):=lin [x] [] [] (.ieq (.s (.n (.p .a0 .k1)) .k1) (.n .a0)) [[1],[1]] rfl
theorem o246 {x y:Int}:x≤y→x - 1<y:=lin [] [x,y] [.ile .a0 .a1] (.ilt (.s .a0 .k1) .a1) [[1,1]] rfl
theorem o247 {x y:Int}:¬x≤y→¬x - 1<y:=lin [] [x,y] [.no (.ile .a0 .a1),.ilt (.s .a0 .k1) .a1] .fls [[1,1]] rfl
theorem o248 {x y:Nat}:x=y→(x:Int)=(y:Int):=lin [x,y] [] [.neq .a0 .a1] (.ieq (.n .a0) (.n .a1)) [[1,-1],[1,1]] rfl
theorem o249 {x y:Nat}:y=x→x≤y:=lin [y,x] [] [.neq .a0 .a1] (.nle .a1 .a0) [[1,-1]] rfl
theorem o250 {x y:Nat}:¬x=y→¬(x:Int)=(y:Int):=lin [x,y] [] [.no (.neq .a0 .a1),.ieq (.n .a0) (.n .a1)] .fls [[1,-1],[1,1]] rfl
theorem o251 {x y:Nat}:¬x=y→x≤y→x<y:=(fun a b=>Nat.lt_of_le_of_ne b a)
theorem o253 {x:Nat}:x≤99999→x≤100000:=(Nat.le_succ_of_le)
theorem o254 {x y z:Nat}:x<Min.min y z→x<y:=fun h0=>lin [x,(Min.min y z),y,z] [] [.nlt .a0 .a1,.or (.an (.nle .a2 .a3) (.neq .a1 .a2)) (.an (.nle .a3 .a2) (.neq .a1 .a3))] (.nlt .a0 .a2) [[1,1,0,1],[1,1,1,1]] rfl h0 (mnF y z)
theorem o256 {x y:Nat}:x<y→(x:Int)<(y:Int):=(Int.ofNat_lt.mpr)
theorem o258 {x y:Nat}:y<x→(x:Int) - 1=(↑(x - 1):Int):=fun h0=>lin [y,x,(x - 1)] [] [.nlt .a0 .a1,.or (.an (.nle .a1 .k1) (.neq .a2 .k0)) (.an (.nle .k1 .a1) (.neq (.p .a2 .k1) .a1))] (.ieq (.s (.n .a1) .k1) (.n .a2)) [[1,1,0,1],[1,0,0,1],[1,0,1,-1],[1,0,0,-1]] rfl h0 (sbF x 1)
theorem o261 {x y:Nat}:¬x<y→¬(x:Int)<(y:Int):=lin [x,y] [] [.no (.nlt .a0 .a1),.ilt (.n .a0) (.n .a1)] .fls [[1,1]] rfl
theorem o263 {x y:Nat}:x≤y→y≤12→x≤12:=(Oz.g2)
theorem o266 {x y:Nat}:x<y→x+1≤y:=(Nat.succ_le_of_lt)
theorem o268 {x:Int}:1≤x→0<x:=(id)
theorem o282 {x:Int}:0≤x→(↑(Int.toNat (1+x)):Int)=1+x:=fun h0=>lin [(Int.toNat (1+x))] [x] [.ile .k0 .a0,.or (.an (.ile .k0 (.p .k1 .a0)) (.ieq (.n .a0) (.p .k1 .a0))) (.an (.ile (.p .k1 .a0) .k0) (.neq .a0 .k0))] (.ieq (.n .a0) (.p .k1 .a0)) [[1,0,0,-1],[0,1,1],[1,0,0,1],[0,1,1]] rfl h0 (tnF (1+x))
theorem o283 {x y:Int}:x=2+y→0≤y→2≤x:=lin [] [x,y] [.ieq .a0 (.p (.k 2) .a1),.ile .k0 .a1] (.ile (.k 2) .a0) [[1,-1,1]] rfl
theorem o284 {x y:Int}:x=2+y→y<8→x≤9:=lin [] [x,y] [.ieq .a0 (.p (.k 2) .a1),.ilt .a1 (.k 8)] (.ile .a0 (.k 9)) [[1,1,1]] rfl
theorem o291 {x y:Nat}:Min.min x y+(y - x+1)=y+1:=lin [(Min.min x y),(y - x),y,x] [] [.or (.an (.nle .a3 .a2) (.neq .a0 .a3)) (.an (.nle .a2 .a3) (.neq .a0 .a2)),.or (.an (.nle .a2 .a3) (.neq .a1 .k0)) (.an (.nle .a3 .a2) (.neq (.p .a1 .a3) .a2))] (.neq (.p .a0 (.p .a1 .k1)) (.p .a2 .k1)) [[1,0,-1,1,-1],[1,0,-1,0,-1],[1,0,-1,0,-1],[1,0,-1],[1,1,1,0,1],[1,0,1,0,1],[1,0,1,0,1],[1,1,1,0,1]] rfl (mnF x y) (sbF y x)
theorem o299 {x y z:Nat}:x<z→y=(x+z) / 2→x≤y:=fun h0 h1=>lin [x,z,y,((x+z) / 2)] [] [.nlt .a0 .a1,.neq .a2 .a3,.an (.nle (.m 2 .a3) (.p .a0 .a1)) (.nlt (.p .a0 .a1) (.m 2 (.p .a3 .k1)))] (.nle .a0 .a2) [[2,1,-2,0,1]] rfl h0 h1 (dvF (x+z) 2 (by decide))
theorem o300 {x y z:Nat}:z<y→x=(z+y) / 2→x<y:=fun h0 h1=>lin [z,y,x,((z+y) / 2)] [] [.nlt .a0 .a1,.neq .a2 .a3,.an (.nle (.m 2 .a3) (.p .a0 .a1)) (.nlt (.p .a0 .a1) (.m 2 (.p .a3 .k1)))] (.nlt .a2 .a1) [[2,1,2,1]] rfl h0 h1 (dvF (z+y) 2 (by decide))
theorem o301 {x y z:Nat}:z≤y→x<z→x<y:=(fun a b=>Oz.g27 b a)
theorem o302 {x y:Nat}:((x:Int)+(y:Int)) / 2=(↑((x+y) / 2):Int):=rfl
theorem o303 {x y z u:Nat}:x - u<z+1→y=(u+x) / 2→y<x→x - (y+1)<z:=fun h0 h1 h2=>lin [(x - u),z,y,((u+x) / 2),x,(x - (y+1)),u] [] [.nlt .a0 (.p .a1 .k1),.neq .a2 .a3,.nlt .a2 .a4,.or (.an (.nle .a4 .a6) (.neq .a0 .k0)) (.an (.nle .a6 .a4) (.neq (.p .a0 .a6) .a4)),.an (.nle (.m 2 .a3) (.p .a6 .a4)) (.nlt (.p .a6 .a4) (.m 2 (.p .a3 .k1))),(.or (.an (.nle .a4 (.p .a2 .k1)) (.neq .a5 .k0)) (.an (.nle (.p .a2 .k1) .a4) (.neq (.p .a5 (.p .a2 .k1)) .a4)))] (.nlt .a5 .a1) [[0,0,-2,2,1,0,0,1],[0,0,-2,2,1,0,0,1],[1,1,-2,2,0,-1,0,1,0,1],[1,1,-2,1,0,-1,0,1,0,1]] rfl h0 h1 h2 (sbF x u) (dvF (u+x) 2 (by decide)) (sbF x (y+1))
theorem o304 {x y z u v:Int}:z<y→u=x→v=z→u<v→x<y:=lin [] [z,y,u,x,v] [.ilt .a0 .a1,.ieq .a2 .a3,.ieq .a4 .a0,.ilt .a2 .a4] (.ilt .a3 .a1) [[1,1,-1,1,1]] rfl
theorem o305 {x y z u:Nat}:u - y<z+1→y<u→x=(y+u) / 2→x - y<z:=fun h0 h1 h2=>lin [(u - y),z,y,u,x,((y+u) / 2),(x - y)] [] [.nlt .a0 (.p .a1 .k1),.nlt .a2 .a3,.neq .a4 .a5,.or (.an (.nle .a3 .a2) (.neq .a0 .k0)) (.an (.nle .a2 .a3) (.neq (.p .a0 .a2) .a3)),.an (.nle (.m 2 .a5) (.p .a2 .a3)) (.nlt (.p .a2 .a3) (.m 2 (.p .a5 .k1))),.or (.an (.nle .a4 .a2) (.neq .a6 .k0)) (.an (.nle .a2 .a4) (.neq (.p .a6 .a2) .a4))] (.nlt .a6 .a1) [[0,0,1,0,1],[0,0,1,0,1],[1,1,1,0,0,-1,0,0,0,1],[2,2,1,2,0,-2,1,0,0,2]] rfl h0 h1 h2 (sbF u y) (dvF (y+u) 2 (by decide)) (sbF x y)
theorem o306 {x y z:Nat}:z≤y→x<z→x≤y:=lin [z,y,x] [] [.nle .a0 .a1,.nlt .a2 .a0] (.nle .a2 .a1) [[1,1,1]] rfl
theorem o307 {x y z u v:Int}:¬z<x→u=y→v=z→v<u→x≤y:=lin [] [z,x,u,y,v] [.no (.ilt .a0 .a1),.ieq .a2 .a3,.ieq .a4 .a0,.ilt .a4 .a2] (.ile .a1 .a3) [[1,1,1,-1,1]] rfl
theorem o308 {x y:Nat}:y≤x→y ≥ x→x=y:=(fun a b=>Nat.le_antisymm b a)
theorem o309 {x y z:Nat}:x≤z→z≤y→x≤y:=(Oz.g2)
theorem o310 {x y z:Nat}:¬z<x→z≤y→x≤y:=lin [z,x,y] [] [.no (.nlt .a0 .a1),.nle .a0 .a2] (.nle .a1 .a2) [[1,1,1]] rfl
theorem o311 {x y:Nat}:x<y→x - 0<y:=(Nat.succ_le_of_lt)
theorem o312 {x y:Int}{z u:Nat}:z≤u→u<z→x≤y:=lin [z,u] [x,y] [.nle .a0 .a1,.nlt .a1 .a0] (.ile .a0 .a1) [[0,1,1]] rfl
theorem o313 {x y:Nat}:x<y+1→x≤y:=(Nat.le_of_lt_succ)
theorem o315 {x:Nat}:x≤99999→x≤99999:=(id)
theorem o329 {x y:Nat}:y≤12→x≤y→x≤12:=(fun a b=>Oz.g2 b a)
theorem o330 {x y:Nat}:x≤y→(x:Int)≤(y:Int):=(Int.ofNat_le.mpr)
theorem o331 {x y:Nat}:x≤y+1→x≤y+1:=(id)
theorem o332 {x y:Nat}:x≤y→x+1≤y+1:=(Nat.lt_succ_of_le)
theorem o333 {x y z:Nat}:x+1 - y<z+1→y≤x→x+1 - (y+1)<z:=fun h0 h1=>lin [((x+1) - y),z,y,x,((x+1) - (y+1))] [] [.nlt .a0 (.p .a1 .k1),.nle .a2 .a3,.or (.an (.nle (.p .a3 .k1) .a2) (.neq .a0 .k0)) (.an (.nle .a2 (.p .a3 .k1)) (.neq (.p .a0 .a2) (.p .a3 .k1))),(.or (.an (.nle (.p .a3 .k1) (.p .a2 .k1)) (.neq .a4 .k0)) (.an (.nle (.p .a2 .k1) (.p .a3 .k1)) (.neq (.p .a4 (.p .a2 .k1)) (.p .a3 .k1))))] (.nlt .a4 .a1) [[0,0,1,1],[0,0,0,1,0,0,1],[1,1,1,0,-1,0,1],[1,1,0,0,-1,0,1]] rfl h0 h1 (sbF (x+1) y) (sbF (x+1) (y+1))
theorem o334 {x:Int}:2≤x→x≤9→Int.natAbs x<2^64:=fun h0 h1=>lin [(Int.natAbs x)] [x] [.ile (.k 2) .a0,.ile .a0 (.k 9),.or (.an (.ile .k0 .a0) (.ieq (.n .a0) .a0)) (.an (.ile .a0 .k0) (.ieq (.n .a0) (.g .a0)))] (.nlt .a0 (.k (2^64))) [[1,0,1,0,1],[0,1,0,0,1]] rfl h0 h1 (naF x)
theorem o335 {x y:Nat}:¬x≤y→¬(x:Int)≤(y:Int):=lin [x,y] [] [.no (.nle .a0 .a1),.ile (.n .a0) (.n .a1)] .fls [[1,1]] rfl
theorem o336 {x y:Int}{z u:Nat}:¬z≤u→z≤u→x=y:=(fun a b=>absurd b a)
theorem o337 {x:Nat}:0≤x+1:=(Nat.zero_le _)
theorem o338 {x y:Nat}:x≤12→14<y→x+1 - 0<y:=fun h0 h1=>lin [x,y,((x+1) - 0)] [] [.nle .a0 (.k 12),.nlt (.k 14) .a1,.or (.an (.nle (.p .a0 .k1) .k0) (.neq .a2 .k0)) (.an (.nle .k0 (.p .a0 .k1)) (.neq (.p .a2 .k0) (.p .a0 .k1)))] (.nlt .a2 .a1) [[0,0,0,1],[1,1,1,0,1]] rfl h0 h1 (sbF (x+1) 0)
theorem o339 {x y:Int}{z:Nat}:z<0→x≠y:=lin [z] [x,y] [.nlt .a0 .k0,.ieq .a0 .a1] .fls [[1]] rfl
theorem o340 {x y z:Nat}:x<z→z≤y+1→x≤y:=lin [x,z,y] [] [.nlt .a0 .a1,.nle .a1 (.p .a2 .k1)] (.nle .a0 .a2) [[1,1,1]] rfl
theorem o341 {x:Nat}:0<(↑(x+1):Int):=lin [x] [] [] (.ilt .k0 (.n (.p .a0 .k1))) [[1]] rfl
theorem o342 {x y:Nat}:y≤12→x≤y+1→x≤13:=lin [y,x] [] [.nle .a0 (.k 12),.nle .a1 (.p .a0 .k1)] (.nle .a1 (.k 13)) [[1,1,1]] rfl
theorem o343 {x y:Nat}:y≤13→x<y→x≤100000:=lin [y,x] [] [.nle .a0 (.k 13),.nlt .a1 .a0] (.nle .a1 (.k 100000)) [[1,1,1]] rfl
theorem o344 {x:Nat}:x≤13→Int.natAbs (x:Int)<2^62:=(fun h=>Nat.lt_of_le_of_lt h (by decide))
theorem o346 {x:Int}:0≤x→(↑(Int.toNat x):Int)=x:=(Int.toNat_of_nonneg)
theorem o347 {x y:Nat}{z:Int}:z<(y:Int)→(x:Int)=z→x<y:=lin [y,x] [z] [.ilt .a0 (.n .a0),.ieq (.n .a1) .a0] (.nlt .a1 .a0) [[1,1,1]] rfl
theorem o350 {x y:Nat}:x≤y→Min.min x y=x:=fun h0=>lin [x,y,(Min.min x y)] [] [.nle .a0 .a1,.or (.an (.nle .a0 .a1) (.neq .a2 .a0)) (.an (.nle .a1 .a0) (.neq .a2 .a1))] (.neq .a2 .a0) [[1,0,0,-1],[1,1,0,-1],[1,0,0,1],[1,0,1,1]] rfl h0 (mnF x y)
theorem o355 {x:Int}:0≤x→(-1) - x<0:=lin [] [x] [.ile .k0 .a0] (.ilt (.s (.k (-1)) .a0) .k0) [[1,1]] rfl
theorem o356 {x y:Int}:0≤y→x<x+1+y:=lin [] [y,x] [.ile .k0 .a0] (.ilt .a1 (.p (.p .a1 .k1) .a0)) [[1,1]] rfl
theorem o358 {x:Int}:1≤x→0≤x:=(fun h=>Int.le_trans (by decide) h)
theorem o359 {x y:Int}:x<y+1→x≤y:=(Int.le_of_lt_add_one)
theorem o360 {x:Int}:1≤x→x+1≠0:=lin [] [x] [.ile .k1 .a0,.ieq (.p .a0 .k1) .k0] .fls [[1,1]] rfl
theorem o361 {x:Int}:1≤x→x≤282429536481→Int.natAbs (x+1)<2^200:=fun h0 h1=>lin [(Int.natAbs (x+1))] [x] [.ile .k1 .a0,.ile .a0 (.k 282429536481),(.or (.an (.ile .k0 (.p .a0 .k1)) (.ieq (.n .a0) (.p .a0 .k1))) (.an (.ile (.p .a0 .k1) .k0) (.ieq (.n .a0) (.g (.p .a0 .k1)))))] (.nlt .a0 (.k (2^200))) [[1,0,1,0,1],[0,1,0,0,1]] rfl h0 h1 (naF (x+1))
theorem o379 {x y:Int}:x<y→y≤x→False:=lin [] [x,y] [.ilt .a0 .a1,.ile .a1 .a0] .fls [[1,1]] rfl
theorem o380 {x y:Nat}:¬x<y→¬y<x→x=y:=lin [x,y] [] [.no (.nlt .a0 .a1),.no (.nlt .a1 .a0)] (.neq .a0 .a1) [[1,1],[1,0,1]] rfl
theorem o381 {x y:Nat}{z u:Int}:z≤u→u<z→x≤y:=lin [x,y] [z,u] [.ile .a0 .a1,.ilt .a1 .a0] (.nle .a0 .a1) [[0,1,1]] rfl
theorem o382 {x y:Nat}{z:Int}{u:Nat}:z=(u:Int) - (y:Int)→x≤u→(x:Int) - (y:Int)≤z:=lin [u,y,x] [z] [.ieq .a0 (.s (.n .a0) (.n .a1)),.nle .a2 .a0] (.ile (.s (.n .a2) (.n .a1)) .a0) [[1,-1,1]] rfl
theorem o383 {x:Int}{y z u v:Nat}:x=(u:Int) - (z:Int)→y=v→x - ((y:Int) - (z:Int))=(u:Int) - (v:Int):=lin [u,z,y,v] [x] [.ieq .a0 (.s (.n .a0) (.n .a1)),.neq .a2 .a3] (.ieq (.s .a0 (.s (.n .a2) (.n .a1))) (.s (.n .a0) (.n .a3))) [[1,-1,1],[1,1,-1]] rfl
theorem o384 {x y:Nat}{z:Int}{u:Nat}{v:Int}:z=(y:Int) - (u:Int)→v=(x:Int) - (u:Int)→v≤z→x≤y:=lin [y,u,x] [z,v] [.ieq .a0 (.s (.n .a0) (.n .a1)),.ieq .a1 (.s (.n .a2) (.n .a1)),.ile .a1 .a0] (.nle .a2 .a0) [[1,1,-1,1]] rfl
theorem o385 {x y:Int}:¬x≤y→x≤y→False:=(fun a b=>absurd b a)
theorem o388 {x y:Nat}:y<x→0<x:=(Nat.zero_lt_of_lt)
theorem o389 {x:Nat}:0<x→0<x:=(Nat.succ_le_of_lt)
theorem o390 {x y:Nat}:x<y→x<y:=(Nat.succ_le_of_lt)
theorem o391 {x y:Nat}:0=y→(x:Int)=(x:Int) - (y:Int):=lin [y,x] [] [.neq .k0 .a0] (.ieq (.n .a1) (.s (.n .a1) (.n .a0))) [[1,-1],[1,-1]] rfl
theorem o394 {x:Nat}:3+x=x+1+1+1:=(Nat.add_comm _ _)
theorem o395 {x y:Nat}:x<y→x≠y+1:=lin [x,y] [] [.nlt .a0 .a1,.neq .a0 (.p .a1 .k1)] .fls [[1,-1]] rfl
theorem o396 {x y z:Nat}:x<y→x≠y+3+z:=lin [x,y,z] [] [.nlt .a0 .a1,.neq .a0 (.p (.p .a1 (.k 3)) .a2)] .fls [[1,-1]] rfl
theorem o397 {x y:Nat}:y+14<x→14<x:=lin [y,x] [] [.nlt (.p .a0 (.k 14)) .a1] (.nlt (.k 14) .a1) [[1,1]] rfl
theorem o398 {x y:Nat}:x≤y+1→y≤12→x≤13:=lin [x,y] [] [.nle .a0 (.p .a1 .k1),.nle .a1 (.k 12)] (.nle .a0 (.k 13)) [[1,1,1]] rfl
theorem o399 {x:Nat}:x≤13→x≤100000:=(fun h=>Oz.g2 h (by decide))
theorem o400 {x y:Nat}:(x:Int)+1=(↑(Min.min y x):Int)+((↑(x - y):Int)+1):=lin [x,(Min.min y x),(x - y),y] [] [.or (.an (.nle .a3 .a0) (.neq .a1 .a3)) (.an (.nle .a0 .a3) (.neq .a1 .a0)),.or (.an (.nle .a0 .a3) (.neq .a2 .k0)) (.an (.nle .a3 .a0) (.neq (.p .a2 .a3) .a0))] (.ieq (.p (.n .a0) .k1) (.p (.n .a1) (.p (.n .a2) .k1))) [[1,1,1,0,1],[1,0,1,0,1],[1,0,1,0,1],[1,1,1,0,1],[1,0,-1,1,-1],[1,0,-1,0,-1],[1,0,-1,0,-1],[1,0,-1]] rfl (mnF y x) (sbF x y)
theorem o401 {x y z:Nat}:z<y→x<z→x<y:=(fun a b=>Nat.lt_trans b a)
theorem o402 {x y:Nat}{z u v w:Int}:z≤u→v=u→w=z→v<w→x=y:=lin [x,y] [z,u,v,w] [.ile .a0 .a1,.ieq .a2 .a1,.ieq .a3 .a0,.ilt .a2 .a3] (.neq .a0 .a1) [[0,1,-1,1,1],[0,1,-1,1,1]] rfl
theorem o403 {x y:Nat}{z:Int}:z<z→x=y:=lin [x,y] [z] [.ilt .a0 .a0] (.neq .a0 .a1) [[0,1],[0,1]] rfl
theorem o406 {x y z:Nat}:y=z→x<z→x<y:=lin [y,z,x] [] [.neq .a0 .a1,.nlt .a2 .a1] (.nlt .a2 .a0) [[1,-1,1]] rfl
theorem o409 {x y:Nat}:x+1<y→x<y:=(Nat.lt_of_succ_lt)
theorem o439 {x y:Nat}:x≤y→x≤y+1:=(Nat.le_succ_of_le)
theorem o440 {x:Nat}:x≤12→Int.natAbs (x:Int)<2^62:=(fun h=>Nat.lt_of_le_of_lt h (by decide))
theorem o441 {x y z:Nat}:y≤99999→x≤Min.min z y→x≤99999:=fun h0 h1=>lin [y,x,(Min.min z y),z] [] [.nle .a0 (.k 99999),.nle .a1 .a2,.or (.an (.nle .a3 .a0) (.neq .a2 .a3)) (.an (.nle .a0 .a3) (.neq .a2 .a0))] (.nle .a1 (.k 99999)) [[1,1,1,1,1],[1,1,1,0,1]] rfl h0 h1 (mnF z y)
theorem o442 {x:Nat}:0<x→0+1≤x:=(Nat.succ_le_of_lt)
theorem o443 {x y:Nat}:x+1<y→x+1+1≤y:=(Nat.succ_le_of_lt)
theorem o444 {x y:Nat}:y≤13→x<y→x≤13:=lin [y,x] [] [.nle .a0 (.k 13),.nlt .a1 .a0] (.nle .a1 (.k 13)) [[1,1,1]] rfl
theorem o445 {x y:Nat}:x+(y+1+1+1)=x+3+y:=lin [x,y] [] [] (.neq (.p .a0 (.p (.p (.p .a1 .k1) .k1) .k1)) (.p (.p .a0 (.k 3)) .a1)) [[1],[1]] rfl
theorem o449:(1:Int)≤(30:Int):=(Int.natCast_nonneg _)
theorem o450 {x:Int}:1≤x→1≤x:=(id)
theorem o451 {x:Int}:30<x→30≤x:=(Int.le_of_lt)
theorem o452 {x:Int}:x≤x:=(Int.le_refl _)
theorem o454 {x y z:Int}:z≤y→x<z→x<y:=(fun a b=>Int.lt_of_lt_of_le b a)
theorem o455 {x y z:Int}:z≤x→y<z→0≤x - 1 - y:=lin [] [z,x,y] [.ile .a0 .a1,.ilt .a2 .a0] (.ile .k0 (.s (.s .a1 .k1) .a2)) [[1,1,1]] rfl
theorem o456 {x y:Int}:0≤y→x - 1 - y<x:=lin [] [y,x] [.ile .k0 .a0] (.ilt (.s (.s .a1 .k1) .a0) .a1) [[1,1]] rfl
theorem o463 {x y:Nat}:x+(y+1)=x+1+y:=lin [x,y] [] [] (.neq (.p .a0 (.p .a1 .k1)) (.p (.p .a0 .k1) .a1)) [[1],[1]] rfl
theorem o464 {x:Nat}:¬(x:Int)<0:=lin [x] [] [.ilt (.n .a0) .k0] .fls [[1]] rfl
theorem o465 {x:Nat}:x≤9^12→(x:Int)≤282429536481:=(Int.ofNat_le.mpr)
theorem o466 {x:Nat}:0≤(-1)+(↑(x+1):Int):=lin [x] [] [] (.ile .k0 (.p (.k (-1)) (.n (.p .a0 .k1)))) [[1]] rfl
theorem o467 {x:Nat}:(-1)+(↑(x+1):Int)<(↑(x+1):Int):=lin [x] [] [] (.ilt (.p (.k (-1)) (.n (.p .a0 .k1))) (.n (.p .a0 .k1))) [[1]] rfl
theorem o468 {x:Nat}:Int.toNat ((-1)+(↑(x+1):Int))=x:=lin [(Int.toNat ((-1)+(↑((x+1)):Int))),x] [] [(.or (.an (.ile .k0 (.p (.k (-1)) (.n (.p .a1 .k1)))) (.ieq (.n .a0) (.p (.k (-1)) (.n (.p .a1 .k1))))) (.an (.ile (.p (.k (-1)) (.n (.p .a1 .k1))) .k0) (.neq .a0 .k0)))] (.neq .a0 .a1) [[1,0,-1],[1,1,-1],[1,0,1],[1,0,1]] rfl (tnF ((-1)+(↑((x+1)):Int)))
theorem o469 {x:Int}:1≤x→x≠0:=lin [] [x] [.ile .k1 .a0,.ieq .a0 .k0] .fls [[1,1]] rfl
theorem o470 {x:Int}:1≤x→x≤282429536481→Int.natAbs x<2^200:=fun h0 h1=>lin [(Int.natAbs x)] [x] [.ile .k1 .a0,.ile .a0 (.k 282429536481),.or (.an (.ile .k0 .a0) (.ieq (.n .a0) .a0)) (.an (.ile .a0 .k0) (.ieq (.n .a0) (.g .a0)))] (.nlt .a0 (.k (2^200))) [[1,0,1,0,1],[0,1,0,0,1]] rfl h0 h1 (naF x)
theorem o471 {x y:Nat}:x+1=y→(x:Int)+1=(y:Int):=lin [x,y] [] [.neq (.p .a0 .k1) .a1] (.ieq (.p (.n .a0) .k1) (.n .a1)) [[1,-1],[1,1]] rfl
theorem o472 {x y:Nat}:y+1=x→x≤y+1:=lin [y,x] [] [.neq (.p .a0 .k1) .a1] (.nle .a1 (.p .a0 .k1)) [[1,-1]] rfl
theorem o473 {x y:Nat}:¬x+1=y→¬(x:Int)+1=(y:Int):=lin [x,y] [] [.no (.neq (.p .a0 .k1) .a1),.ieq (.p (.n .a0) .k1) (.n .a1)] .fls [[1,-1],[1,1]] rfl
theorem o474 {x y:Nat}:x<y→¬x+1=y→x+1<y:=(Nat.lt_of_le_of_ne)
theorem o477 {x y:Nat}:¬y<x→x≤y:=(Nat.not_lt.mp)
theorem o479 {x:Nat}:1≤x→1≤(x:Int):=(Int.ofNat_lt.mpr)
theorem o480 {x:Nat}:0<x→0<(x:Int):=(Int.ofNat_lt.mpr)
theorem o481 {x:Nat}:0<x→1≤(x:Int):=(Int.ofNat_lt.mpr)
theorem o482 {x y:Nat}:x=y→y≤99999→(x:Int)≤282429536481:=lin [x,y] [] [.neq .a0 .a1,.nle .a1 (.k 99999)] (.ile (.n .a0) (.k 282429536481)) [[1,1,1]] rfl
theorem o483 {x:Nat}:¬0<x→¬0<(x:Int):=lin [x] [] [.no (.nlt .k0 .a0),.ilt .k0 (.n .a0)] .fls [[1,1]] rfl
theorem o484 {x y:Nat}:x=y→y≤99999→x≤100000:=lin [x,y] [] [.neq .a0 .a1,.nle .a1 (.k 99999)] (.nle .a0 (.k 100000)) [[1,1,1]] rfl
theorem o485 {x y:Nat}:Min.min x y+(y - x+1)≤y+1:=lin [(Min.min x y),(y - x),y,x] [] [.or (.an (.nle .a3 .a2) (.neq .a0 .a3)) (.an (.nle .a2 .a3) (.neq .a0 .a2)),.or (.an (.nle .a2 .a3) (.neq .a1 .k0)) (.an (.nle .a3 .a2) (.neq (.p .a1 .a3) .a2))] (.nle (.p .a0 (.p .a1 .k1)) (.p .a2 .k1)) [[1,1,1,0,1],[1,0,1,0,1],[1,0,1,0,1],[1,1,1,0,1]] rfl (mnF x y) (sbF y x)
theorem o497 {x:Int}:x<0→¬0≤x:=(Int.not_le.mpr)
theorem o535 {x:Int}:x=1→¬x=2:=lin [] [x] [.ieq .a0 .k1,.ieq .a0 (.k 2)] .fls [[1,-1]] rfl
theorem o536 {x:Int}{y:Nat}:(y:Int)≤x→¬x<(y:Int):=(Int.not_lt.mpr)
theorem o539 {x y:Nat}:¬x<y→x<y+1→x=y:=lin [x,y] [] [.no (.nlt .a0 .a1),.nlt .a0 (.p .a1 .k1)] (.neq .a0 .a1) [[1,1],[1,0,1]] rfl
theorem o540 {x y:Nat}:y≤200000→x=y→(x:Int)<9223372036854775808:=lin [y,x] [] [.nle .a0 (.k 200000),.neq .a1 .a0] (.ilt (.n .a1) (.k 9223372036854775808)) [[1,1,1]] rfl
theorem o541 {x:Nat}:x≤200000→(x:Int)<9223372036854775808:=lin [x] [] [.nle .a0 (.k 200000)] (.ilt (.n .a0) (.k 9223372036854775808)) [[1,1]] rfl
theorem o542 {x y:Nat}:y≤200000→x=y→x≤200000:=lin [y,x] [] [.nle .a0 (.k 200000),.neq .a1 .a0] (.nle .a1 (.k 200000)) [[1,1,1]] rfl
theorem o543 {x y:Nat}:y<64→x=y→x<64:=lin [y,x] [] [.nlt .a0 (.k 64),.neq .a1 .a0] (.nlt .a1 (.k 64)) [[1,1,1]] rfl
theorem o544 {x:Nat}:x<64→x≤200000:=lin [x] [] [.nlt .a0 (.k 64)] (.nle .a0 (.k 200000)) [[1,1]] rfl
theorem o545 {x:Nat}:x≤200000→x≤200000:=(id)
theorem o546 {x y:Nat}{z:Int}:0≤z+(y:Int)∧z+(y:Int)<(y:Int)→Int.toNat (z+(y:Int))=x→x<y∧(0≤z∧z=(x:Int)∨z<0∧z+(y:Int)=(x:Int)):=fun h0 h1=>lin [y,(Int.toNat (z+(y:Int))),x] [z] [.an (.ile .k0 (.p .a0 (.n .a0))) (.ilt (.p .a0 (.n .a0)) (.n .a0)),.neq .a1 .a2,(.or (.an (.ile .k0 (.p .a0 (.n .a0))) (.ieq (.n .a1) (.p .a0 (.n .a0)))) (.an (.ile (.p .a0 (.n .a0)) .k0) (.neq .a1 .k0)))] (.an (.nlt .a2 .a0) (.or (.an (.ile .k0 .a0) (.ieq .a0 (.n .a2))) (.an (.ilt .a0 .k0) (.ieq (.p .a0 (.n .a0)) (.n .a2))))) [[1,0,1,-1,0,1],[1,1,1,-1,0,1],[0,1,0,1],[0,1,0,1,-1,0,1],[0,1,0,0,-1,0,1],[0,1,1,0,-1,0,1],[0,1,0,0,1,0,-1],[0,1,0,0,-1,1,1],[0,1,0,1],[0,1,0,1,-1,0,1],[0,1,0,0,-1,0,1],[0,1,1,0,-1,0,1],[0,1,0,0,1,0,-1],[0,1,0,0,-1,1,1],[0,1,0,1],[0,1,0,1,-1,0,1],[0,1,0,0,-1,0,1],[0,1,1,0,-1,0,1],[0,1,0,0,1,0,-1],[0,1,0,0,-1,1,1]] rfl h0 h1 (tnF (z+(y:Int)))
theorem o547 {x y:Nat}{z:Int}:0≤z∧z<(y:Int)→Int.toNat z=x→x<y∧(0≤z∧z=(x:Int)∨z<0∧z+(y:Int)=(x:Int)):=fun h0 h1=>lin [y,(Int.toNat z),x] [z] [.an (.ile .k0 .a0) (.ilt .a0 (.n .a0)),.neq .a1 .a2,.or (.an (.ile .k0 .a0) (.ieq (.n .a1) .a0)) (.an (.ile .a0 .k0) (.neq .a1 .k0))] (.an (.nlt .a2 .a0) (.or (.an (.ile .k0 .a0) (.ieq .a0 (.n .a2))) (.an (.ilt .a0 .k0) (.ieq (.p .a0 (.n .a0)) (.n .a2))))) [[1,0,1,-1,0,1],[1,1,1,-1,0,1],[1,0,0,0,-1,0,1],[1,0,1,0,-1,0,1],[0,1,0,0,-1,0,1],[0,1,1,0,-1,0,1],[1,0,0,0,-1,0,1],[1,0,1,0,-1,0,1],[1,0,0,0,-1,0,1],[1,0,1,0,-1,0,1],[0,1,0,0,-1,0,1],[0,1,1,0,-1,0,1],[1,0,0,0,-1,0,1],[1,0,1,0,-1,0,1],[1,0,0,0,1,0,-1],[1,0,0,0,-1,1,1],[0,1,0,0,-1,0,1],[0,1,1,0,-1,0,1],[1,0,0,0,1,0,-1],[1,0,0,0,-1,1,1]] rfl h0 h1 (tnF z)
theorem o548 {x:Int}{y z:Nat}:y≤200000→z<y→x=(z:Int)→x<2^63:=lin [y,z] [x] [.nle .a0 (.k 200000),.nlt .a1 .a0,.ieq .a0 (.n .a1)] (.ilt .a0 (.k (2^63))) [[1,1,1,1]] rfl
theorem o549 {x:Int}{y:Nat}:x=(y:Int)→Int.toNat x=y:=fun h0=>lin [y,(Int.toNat x)] [x] [.ieq .a0 (.n .a0),.or (.an (.ile .k0 .a0) (.ieq (.n .a1) .a0)) (.an (.ile .a0 .k0) (.neq .a1 .k0))] (.neq .a1 .a0) [[1,-1,0,-1],[1,-1,1,-1],[1,1,0,1],[1,-1,1,1]] rfl h0 (tnF x)
theorem o550 {x:Nat}{y:Int}{z u:Nat}:x=z→y+(z:Int)=(u:Int)→-(x:Int)≤y:=lin [x,z,u] [y] [.neq .a0 .a1,.ieq (.p .a0 (.n .a1)) (.n .a2)] (.ile (.g (.n .a0)) .a0) [[1,-1,-1]] rfl
theorem o551 {x:Int}{y z:Nat}:y≤200000→x+(y:Int)=(z:Int)→-2^63≤x:=lin [y,z] [x] [.nle .a0 (.k 200000),.ieq (.p .a0 (.n .a0)) (.n .a1)] (.ile (.k (-(2^63))) .a0) [[1,1,-1]] rfl
theorem o552 {x:Int}{y z u:Nat}:y=u→x+(u:Int)=(z:Int)→Int.toNat (x+(y:Int))=z:=fun h0 h1=>lin [y,u,z,(Int.toNat (x+(y:Int)))] [x] [.neq .a0 .a1,.ieq (.p .a0 (.n .a1)) (.n .a2),(.or (.an (.ile .k0 (.p .a0 (.n .a0))) (.ieq (.n .a3) (.p .a0 (.n .a0)))) (.an (.ile (.p .a0 (.n .a0)) .k0) (.neq .a3 .k0)))] (.neq .a3 .a2) [[1,-1,-1,0,-1],[1,-1,-1,1,-1],[1,1,1,0,1],[1,-1,-1,1,1]] rfl h0 h1 (tnF (x+(y:Int)))
theorem o553 {x:Int}{y z:Nat}:y≤200000→0≤x∧x=(z:Int)∨x<0∧x+(y:Int)=(z:Int)→-2^63≤x:=lin [y,z] [x] [.nle .a0 (.k 200000),(.or (.an (.ile .k0 .a0) (.ieq .a0 (.n .a1))) (.an (.ilt .a0 .k0) (.ieq (.p .a0 (.n .a0)) (.n .a1))))] (.ile (.k (-(2^63))) .a0) [[1,0,0,-1],[1,1,0,-1]] rfl
theorem o554 {x:Int}{y z:Nat}:y≤200000→z<y→0≤x∧x=(z:Int)∨x<0∧x+(y:Int)=(z:Int)→x<2^63:=lin [y,z] [x] [.nle .a0 (.k 200000),.nlt .a1 .a0,(.or (.an (.ile .k0 .a0) (.ieq .a0 (.n .a1))) (.an (.ilt .a0 .k0) (.ieq (.p .a0 (.n .a0)) (.n .a1))))] (.ilt .a0 (.k (2^63))) [[1,1,1,0,1],[1,0,0,1]] rfl
theorem o555 {x:Int}{y z:Nat}:0≤x→0≤x∧x=(y:Int)∨x<0∧x+(z:Int)=(y:Int)→Int.toNat x=y:=fun h0 h1=>lin [y,z,(Int.toNat x)] [x] [.ile .k0 .a0,(.or (.an (.ile .k0 .a0) (.ieq .a0 (.n .a0))) (.an (.ilt .a0 .k0) (.ieq (.p .a0 (.n .a1)) (.n .a0)))),.or (.an (.ile .k0 .a0) (.ieq (.n .a2) .a0)) (.an (.ile .a0 .k0) (.neq .a2 .k0))] (.neq .a2 .a0) [[1,0,0,-1,0,-1],[1,0,0,-1,1,-1],[0,0,1,0,0,1],[0,1,1],[1,0,0,1,0,1],[1,0,0,-1,1,1],[0,0,1,0,0,1],[0,1,1]] rfl h0 h1 (tnF x)
theorem o556 {x:Int}{y z:Nat}:y≤200000→z<y→Int.toNat x=z→x<2^63:=fun h0 h1 h2=>lin [y,z,(Int.toNat x)] [x] [.nle .a0 (.k 200000),.nlt .a1 .a0,.neq .a2 .a1,.or (.an (.ile .k0 .a0) (.ieq (.n .a2) .a0)) (.an (.ile .a0 .k0) (.neq .a2 .k0))] (.ilt .a0 (.k (2^63))) [[1,1,1,1,0,-1],[1,0,0,-1,1,1]] rfl h0 h1 h2 (tnF x)
theorem o557 {x:Int}{y z u:Nat}:z<u→y=u→Int.toNat x=z→x<(y:Int):=fun h0 h1 h2=>lin [z,u,y,(Int.toNat x)] [x] [.nlt .a0 .a1,.neq .a2 .a1,.neq .a3 .a0,.or (.an (.ile .k0 .a0) (.ieq (.n .a3) .a0)) (.an (.ile .a0 .k0) (.neq .a3 .k0))] (.ilt .a0 (.n .a2)) [[1,1,-1,1,0,-1],[1,1,-1,-1,1,1]] rfl h0 h1 h2 (tnF x)
theorem o558 {x y:Nat}:x≤y+1→y≤100000→x≤200000:=lin [x,y] [] [.nle .a0 (.p .a1 .k1),.nle .a1 (.k 100000)] (.nle .a0 (.k 200000)) [[1,1,1]] rfl
theorem o559 {x:Nat}:x≤100000→x≤200000:=(fun h=>Oz.g2 h (by decide))
theorem o560 {x x_1:Nat}:x+(2:Nat)*x_1+(2:Nat)<PySem.recursionLimit→x+(2:Nat)*x_1+(1:Nat)<PySem.recursionLimit:=(Nat.le_of_lt)
theorem o561 {x x_1:Nat}:x+(16:Nat)*x_1+(16:Nat)<PySem.cLine→x+(16:Nat)*x_1+(10:Nat)<PySem.cLine:=lin [x,x_1,PySem.cLine] [] [(.nlt (.p (.p .a0 (.m (16:Nat) .a1)) (.k (16:Nat))) .a2)] (.nlt (.p (.p .a0 (.m (16:Nat) .a1)) (.k (10:Nat))) .a2) [[1,1]] rfl
theorem o562 {x x_1:Nat}:x+(2:Nat)*x_1+(2:Nat)<PySem.recursionLimit→x+(1:Nat)+(2:Nat)*x_1+(1:Nat)<PySem.recursionLimit:=lin [x,x_1,PySem.recursionLimit] [] [(.nlt (.p (.p .a0 (.m (2:Nat) .a1)) (.k (2:Nat))) .a2)] (.nlt (.p (.p (.p .a0 (.k (1:Nat))) (.m (2:Nat) .a1)) (.k (1:Nat))) .a2) [[1,1]] rfl
theorem o563 {x x_1:Nat}:x+(16:Nat)*x_1+(16:Nat)<PySem.cLine→x+(1:Nat)+(16:Nat)*x_1+(10:Nat)<PySem.cLine:=lin [x,x_1,PySem.cLine] [] [(.nlt (.p (.p .a0 (.m (16:Nat) .a1)) (.k (16:Nat))) .a2)] (.nlt (.p (.p (.p .a0 (.k (1:Nat))) (.m (16:Nat) .a1)) (.k (10:Nat))) .a2) [[1,1]] rfl
theorem o564 {x y z u v w a:Nat}:x+(y+(z+u+(v+w+a)))=y+(z+a)+(x+(u+(w+v))):=lin [x,y,z,u,v,w,a] [] [] (.neq (.p .a0 (.p .a1 (.p (.p .a2 .a3) (.p (.p .a4 .a5) .a6)))) (.p (.p .a1 (.p .a2 .a6)) (.p .a0 (.p .a3 (.p .a5 .a4))))) [[1],[1]] rfl
theorem o565 {x y z u v:Nat}:x+(y+(z+(u+v)))=y+(x+(z+(u+v))):=lin [x,y,z,u,v] [] [] (.neq (.p .a0 (.p .a1 (.p .a2 (.p .a3 .a4)))) (.p .a1 (.p .a0 (.p .a2 (.p .a3 .a4))))) [[1],[1]] rfl
theorem o566 {x:Int}:0<x→x - 0=(↑(Int.toNat x):Int):=fun h0=>lin [(Int.toNat x)] [x] [.ilt .k0 .a0,.or (.an (.ile .k0 .a0) (.ieq (.n .a0) .a0)) (.an (.ile .a0 .k0) (.neq .a0 .k0))] (.ieq (.s .a0 .k0) (.n .a0)) [[1,0,0,1],[0,1,1],[1,0,0,-1],[0,1,1]] rfl h0 (tnF x)
theorem o567 {x:Int}:¬0<x→0=(↑(Int.toNat x):Int):=fun h0=>lin [(Int.toNat x)] [x] [.no (.ilt .k0 .a0),.or (.an (.ile .k0 .a0) (.ieq (.n .a0) .a0)) (.an (.ile .a0 .k0) (.neq .a0 .k0))] (.ieq .k0 (.n .a0)) [[1,1,0,1],[1,0,0,1],[1],[1,0,0,-1]] rfl h0 (tnF x)
theorem o572 {x y:Nat}:y<x→0<(x:Int) - (y:Int):=lin [y,x] [] [.nlt .a0 .a1] (.ilt .k0 (.s (.n .a1) (.n .a0))) [[1,1]] rfl
theorem o573 {x y z:Int}:x+y+z=x+(y+1*z):=lin [] [x,y,z] [] (.ieq (.p (.p .a0 .a1) .a2) (.p .a0 (.p .a1 (.m 1 .a2)))) [[1],[1]] rfl
theorem o574 {x y:Nat}:(x:Int) - (y:Int) - 1=(x:Int) - ((y:Int)+1):=lin [x,y] [] [] (.ieq (.s (.s (.n .a0) (.n .a1)) .k1) (.s (.n .a0) (.p (.n .a1) .k1))) [[1],[1]] rfl
theorem o575 {x y:Nat}:x≤y→(x:Int) - (y:Int)≤0:=lin [x,y] [] [.nle .a0 .a1] (.ile (.s (.n .a0) (.n .a1)) .k0) [[1,1]] rfl
theorem o576 {x y:Nat}:y<x→(x:Int) - 1 - (y:Int)=(↑(x - 1 - y):Int):=fun h0=>lin [y,x,((x - 1) - y),(x - 1)] [] [.nlt .a0 .a1,.or (.an (.nle .a3 .a0) (.neq .a2 .k0)) (.an (.nle .a0 .a3) (.neq (.p .a2 .a0) .a3)),.or (.an (.nle .a1 .k1) (.neq .a3 .k0)) (.an (.nle .k1 .a1) (.neq (.p .a3 .k1) .a1))] (.ieq (.s (.s (.n .a1) .k1) (.n .a0)) (.n .a2)) [[1,1,0,1],[1,1,0,1],[1,1,0,1,0,1],[1,0,0,1,0,1],[1,0,0,-1,1],[1,0,1,-1,0,-1],[1,0,0,-1,1,-1],[1,0,0,-1,0,-1]] rfl h0 (sbF (x - 1) y) (sbF x 1)
theorem o577 {x y:Nat}:(x:Int) - 1 - (y:Int)=(↑(x - 1 - y):Int)→(↑(x - 1 - y):Int) - 1=(x:Int) - 1 - (↑(y+1):Int):=lin [x,y,((x - 1) - y)] [] [.ieq (.s (.s (.n .a0) .k1) (.n .a1)) (.n .a2)] (.ieq (.s (.n .a2) .k1) (.s (.s (.n .a0) .k1) (.n (.p .a1 .k1)))) [[1,1],[1,-1]] rfl
theorem o578 {x y:Nat}:y≤x→x≤y→(x:Int) - 1 - (y:Int)=(-1):=lin [y,x] [] [.nle .a0 .a1,.nle .a1 .a0] (.ieq (.s (.s (.n .a1) .k1) (.n .a0)) (.k (-1))) [[1,1],[1,0,1]] rfl
theorem o579 {x y:Nat}:y<x→x+1 - (y+1)<x+1 - y:=fun h0=>lin [y,x,((x+1) - (y+1)),((x+1) - y)] [] [.nlt .a0 .a1,(.or (.an (.nle (.p .a1 .k1) (.p .a0 .k1)) (.neq .a2 .k0)) (.an (.nle (.p .a0 .k1) (.p .a1 .k1)) (.neq (.p .a2 (.p .a0 .k1)) (.p .a1 .k1)))),.or (.an (.nle (.p .a1 .k1) .a0) (.neq .a3 .k0)) (.an (.nle .a0 (.p .a1 .k1)) (.neq (.p .a3 .a0) (.p .a1 .k1)))] (.nlt .a2 .a3) [[0,1,0,0,1],[0,1,1],[0,0,0,1,1],[1,0,0,1,0,-1]] rfl h0 (sbF (x+1) (y+1)) (sbF (x+1) y)
theorem o580 {x y z u:Nat}:y≤100000→z≤u→u<y→x=z→x≤100000:=lin [y,z,u,x] [] [.nle .a0 (.k 100000),.nle .a1 .a2,.nlt .a2 .a0,.neq .a3 .a1] (.nle .a3 (.k 100000)) [[1,1,1,1,1]] rfl
theorem o581 {x y z:Nat}:y≤100000→z≤y→x≤z→x≤200000:=lin [y,z,x] [] [.nle .a0 (.k 100000),.nle .a1 .a0,.nle .a2 .a1] (.nle .a2 (.k 200000)) [[1,1,1,1]] rfl
theorem o589 {x:Int}:Int.natAbs x<2^62→-2^62≤x:=fun h0=>lin [(Int.natAbs x)] [x] [.nlt .a0 (.k (2^62)),.or (.an (.ile .k0 .a0) (.ieq (.n .a0) .a0)) (.an (.ile .a0 .k0) (.ieq (.n .a0) (.g .a0)))] (.ile (.k (-(2^62))) .a0) [[1,0,0,1],[1,1,0,-1]] rfl h0 (naF x)
theorem o590 {x:Int}:Int.natAbs x<2^62→x<2^62:=fun h0=>lin [(Int.natAbs x)] [x] [.nlt .a0 (.k (2^62)),.or (.an (.ile .k0 .a0) (.ieq (.n .a0) .a0)) (.an (.ile .a0 .k0) (.ieq (.n .a0) (.g .a0)))] (.ilt .a0 (.k (2^62))) [[1,1,0,-1],[1,0,0,1]] rfl h0 (naF x)
theorem o593 {x y:Nat}:y≤100000→x=y→x≤200000:=lin [y,x] [] [.nle .a0 (.k 100000),.neq .a1 .a0] (.nle .a1 (.k 200000)) [[1,1,1]] rfl
theorem o594 {x:Nat}:x≤100000→x≤199999:=(fun h=>Oz.g2 h (by decide))
theorem o595 {x:Int}:0≤x→¬x<0:=(Int.not_lt.mpr)
theorem o596 {x:Int}{y z:Nat}:x≤(z:Int)→y=z→Min.min (Int.toNat x) y=Int.toNat x:=fun h0 h1=>lin [z,y,(Min.min (Int.toNat x) y),(Int.toNat x)] [x] [.ile .a0 (.n .a0),.neq .a1 .a0,.or (.an (.nle .a3 .a1) (.neq .a2 .a3)) (.an (.nle .a1 .a3) (.neq .a2 .a1)),.or (.an (.ile .k0 .a0) (.ieq (.n .a3) .a0)) (.an (.ile .a0 .k0) (.neq .a3 .k0))] (.neq .a2 .a3) [[1,0,0,0,-1],[1,0,0,0,-1],[1,1,-1,0,-1,0,1],[1,0,-1,0,-1,0,1],[1,0,0,0,1],[1,0,0,0,1],[1,0,0,1,1],[1,0,0,1,1]] rfl h0 h1 (mnF (Int.toNat x) y) (tnF x)
theorem o597 {x:Int}{y:Nat}:0≤x→x≤(y:Int)→y≤100000→(-9223372036854775808)≤x∧x<9223372036854775808:=lin [y] [x] [.ile .k0 .a0,.ile .a0 (.n .a0),.nle .a0 (.k 100000)] (.an (.ile (.k (-9223372036854775808)) .a0) (.ilt .a0 (.k 9223372036854775808))) [[1,1],[1,0,1,1]] rfl
theorem o598 {x:Int}{y:Nat}:y≤100000→Min.min (Int.toNat x) y+(y - Int.toNat x+1)≤200000:=fun h0=>lin [y,(Min.min (Int.toNat x) y),(y - (Int.toNat x)),(Int.toNat x)] [x] [.nle .a0 (.k 100000),.or (.an (.nle .a3 .a0) (.neq .a1 .a3)) (.an (.nle .a0 .a3) (.neq .a1 .a0)),.or (.an (.nle .a0 .a3) (.neq .a2 .k0)) (.an (.nle .a3 .a0) (.neq (.p .a2 .a3) .a0))] (.nle (.p .a1 (.p .a2 .k1)) (.k 200000)) [[1,1,1,1,0,1],[1,1,0,1,0,1],[1,1,0,1,0,1],[1,1,1,1,0,1]] rfl h0 (mnF (Int.toNat x) y) (sbF y (Int.toNat x))
theorem o599 {x:Int}{y:Nat}:0≤x→x<(y:Int)→y≤200000→(-9223372036854775808)≤x∧x<9223372036854775808:=lin [y] [x] [.ile .k0 .a0,.ilt .a0 (.n .a0),.nle .a0 (.k 200000)] (.an (.ile (.k (-9223372036854775808)) .a0) (.ilt .a0 (.k 9223372036854775808))) [[1,1],[1,0,1,1]] rfl
theorem o600 {x:Int}{y z:Nat}:0≤x→x<(z:Int)→y=z→0≤x∧x<(y:Int):=lin [z,y] [x] [.ile .k0 .a0,.ilt .a0 (.n .a0),.neq .a1 .a0] (.an (.ile .k0 .a0) (.ilt .a0 (.n .a1))) [[1,1],[1,0,1,-1]] rfl
theorem o601 {x y:Nat}:y≤200000→x≤y→x≤200000:=(fun a b=>Oz.g2 b a)
theorem o602 {x y z u:Nat}:y≤200000→z=u→z=y→x<u→(x:Int)<2^63 - 1:=lin [y,z,u,x] [] [.nle .a0 (.k 200000),.neq .a1 .a2,.neq .a1 .a0,.nlt .a3 .a2] (.ilt (.n .a3) (.s (.k (2^63)) .k1)) [[1,1,-1,1,1]] rfl
theorem o603 {x y:Nat}:y=x→¬x>y:=lin [y,x] [] [.neq .a0 .a1,.nlt .a0 .a1] .fls [[-1,1]] rfl
theorem o604 {x x_1:Nat}:x+(2:Nat)*(x_1+(1:Nat))+(1:Nat)<PySem.recursionLimit→x<PySem.recursionLimit:=lin [x,x_1,PySem.recursionLimit] [] [(.nlt (.p (.p .a0 (.m (2:Nat) (.p .a1 (.k (1:Nat))))) (.k (1:Nat))) .a2)] (.nlt .a0 .a2) [[1,1]] rfl
theorem o605 {x x_1:Nat}:x+(2:Nat)*(x_1+(1:Nat))+(1:Nat)<PySem.recursionLimit→x+(1:Nat)+(2:Nat)*x_1+(2:Nat)<PySem.recursionLimit:=lin [x,x_1,PySem.recursionLimit] [] [(.nlt (.p (.p .a0 (.m (2:Nat) (.p .a1 (.k (1:Nat))))) (.k (1:Nat))) .a2)] (.nlt (.p (.p (.p .a0 (.k (1:Nat))) (.m (2:Nat) .a1)) (.k (2:Nat))) .a2) [[1,1]] rfl
theorem o606 {x x_1:Nat}:x+(16:Nat)*(x_1+(1:Nat))+(10:Nat)<PySem.cLine→x+(3:Nat)+(16:Nat)*x_1+(16:Nat)<PySem.cLine:=lin [x,x_1,PySem.cLine] [] [(.nlt (.p (.p .a0 (.m (16:Nat) (.p .a1 (.k (1:Nat))))) (.k (10:Nat))) .a2)] (.nlt (.p (.p (.p .a0 (.k (3:Nat))) (.m (16:Nat) .a1)) (.k (16:Nat))) .a2) [[1,1]] rfl
theorem o607 {x y z:Nat}:z=y→x<z→x<y:=lin [z,y,x] [] [.neq .a0 .a1,.nlt .a2 .a0] (.nlt .a2 .a1) [[1,1,1]] rfl
theorem o608 {x:Nat}:¬x+1<x:=lin [x] [] [.nlt (.p .a0 .k1) .a0] .fls [[1]] rfl
theorem o609 {x y:Nat}:y<100→x≤y+1→x≤1000:=lin [y,x] [] [.nlt .a0 (.k 100),.nle .a1 (.p .a0 .k1)] (.nle .a1 (.k 1000)) [[1,1,1]] rfl
theorem o610 {x:Nat}:x<30→x<30:=(Nat.succ_le_of_lt)
theorem o611 {x:Nat}:x<200→x<9000:=(fun h=>Nat.lt_trans h (by decide))
theorem o612 {x y:Nat}:x+y≤100000→x+y≤200000:=(fun h=>Oz.g2 h (by decide))
theorem o613 {x x_1:Nat}:x+(x_1+(1:Nat))<PySem.cLine→x<PySem.cLine:=lin [x,x_1,PySem.cLine] [] [(.nlt (.p .a0 (.p .a1 (.k (1:Nat)))) .a2)] (.nlt .a0 .a2) [[1,1]] rfl
theorem o614 {x x_1:Nat}:x+(x_1+(1:Nat))<PySem.cLine→x+(1:Nat)+x_1<PySem.cLine:=lin [x,x_1,PySem.cLine] [] [(.nlt (.p .a0 (.p .a1 (.k (1:Nat)))) .a2)] (.nlt (.p (.p .a0 (.k (1:Nat))) .a1) .a2) [[1,1]] rfl
theorem o615 {x:Nat}:1≤x→Min.min 1 x=1:=fun h0=>lin [x,(Min.min 1 x)] [] [.nle .k1 .a0,.or (.an (.nle .k1 .a0) (.neq .a1 .k1)) (.an (.nle .a0 .k1) (.neq .a1 .a0))] (.neq .a1 .k1) [[1,0,0,-1],[1,1,0,-1],[1,0,0,1],[1,0,1,1]] rfl h0 (mnF 1 x)
theorem o616 {x x_1:Nat}:x+(2:Nat)*x_1+(3:Nat)<PySem.recursionLimit→x<PySem.recursionLimit:=lin [x,x_1,PySem.recursionLimit] [] [(.nlt (.p (.p .a0 (.m (2:Nat) .a1)) (.k (3:Nat))) .a2)] (.nlt .a0 .a2) [[1,1]] rfl
theorem o617 {x x_1:Nat}:x+(2:Nat)*x_1+(3:Nat)<PySem.recursionLimit→x+(1:Nat)+(2:Nat)*x_1+(2:Nat)<PySem.recursionLimit:=lin [x,x_1,PySem.recursionLimit] [] [(.nlt (.p (.p .a0 (.m (2:Nat) .a1)) (.k (3:Nat))) .a2)] (.nlt (.p (.p (.p .a0 (.k (1:Nat))) (.m (2:Nat) .a1)) (.k (2:Nat))) .a2) [[1,1]] rfl
theorem o618 {x x_1:Nat}:x+(16:Nat)*x_1+(20:Nat)<PySem.cLine→x+(3:Nat)+(16:Nat)*x_1+(16:Nat)<PySem.cLine:=lin [x,x_1,PySem.cLine] [] [(.nlt (.p (.p .a0 (.m (16:Nat) .a1)) (.k (20:Nat))) .a2)] (.nlt (.p (.p (.p .a0 (.k (3:Nat))) (.m (16:Nat) .a1)) (.k (16:Nat))) .a2) [[1,1]] rfl
theorem o619 {x:Nat}:1≤x→x - 1+1=x:=(Nat.sub_add_cancel)
theorem o620 {x:Nat}:x<1→x=0:=(Nat.sub_eq_zero_of_le)
theorem o621 {x y z:Nat}:z≤x→y<z→x≠y:=lin [z,x,y] [] [.nle .a0 .a1,.nlt .a2 .a0,.neq .a1 .a2] .fls [[1,1,1]] rfl
theorem o628 {x x_1:Nat}:x+(16:Nat)*x_1+(16:Nat)<PySem.cLine→x+(6:Nat)<PySem.cLine:=lin [x,x_1,PySem.cLine] [] [(.nlt (.p (.p .a0 (.m (16:Nat) .a1)) (.k (16:Nat))) .a2)] (.nlt (.p .a0 (.k (6:Nat))) .a2) [[1,1]] rfl
theorem o641 {x y:Int}:0≤y→y<x→0≤x:=lin [] [y,x] [.ile .k0 .a0,.ilt .a0 .a1] (.ile .k0 .a1) [[1,1,1]] rfl
theorem o686 {x y z:Nat}:z≤y→x≤z→x≤y:=(fun a b=>Oz.g2 b a)
theorem o706 {x y:Nat}:y<x→¬x=y:=(Nat.ne_of_gt)
theorem o711 {x y:Int}:x=y→x≤y:=(Int.le_of_eq)
theorem o717 {x:Int}:x≤9→x≤9:=(id)
theorem o722 {x y z:Nat}:y<z→z≤x→¬x=y:=lin [y,z,x] [] [.nlt .a0 .a1,.nle .a1 .a2,.neq .a2 .a0] .fls [[1,1,1]] rfl
theorem o723 {x:Nat}:0<x→x - 1<x:=(fun h=>Nat.sub_lt h (by decide))
theorem o729 {x:Nat}:x≤12→Int.natAbs ((x:Int)+1)<2^62:=fun h0=>lin [x,(Int.natAbs ((x:Int)+1))] [] [.nle .a0 (.k 12),(.or (.an (.ile .k0 (.p (.n .a0) .k1)) (.ieq (.n .a1) (.p (.n .a0) .k1))) (.an (.ile (.p (.n .a0) .k1) .k0) (.ieq (.n .a1) (.g (.p (.n .a0) .k1)))))] (.nlt .a1 (.k (2^62))) [[1,1,0,1],[0,0,0,1]] rfl h0 (naF ((x:Int)+1))
theorem o737 {x:Nat}:¬x=0→(x:Int)>0:=lin [x] [] [.no (.neq .a0 .k0)] (.ilt .k0 (.n .a0)) [[0,1],[1,1]] rfl
theorem o740 {x y z:Int}:0≤x→y<z→0≤y→Int.toNat (x+y)<Int.toNat (x+z):=fun h0 h1 h2=>lin [(Int.toNat (x+y)),(Int.toNat (x+z))] [x,y,z] [.ile .k0 .a0,.ilt .a1 .a2,.ile .k0 .a1,.or (.an (.ile .k0 (.p .a0 .a1)) (.ieq (.n .a0) (.p .a0 .a1))) (.an (.ile (.p .a0 .a1) .k0) (.neq .a0 .k0)),.or (.an (.ile .k0 (.p .a0 .a2)) (.ieq (.n .a1) (.p .a0 .a2))) (.an (.ile (.p .a0 .a2) .k0) (.neq .a1 .k0))] (.nlt .a0 .a1) [[1,0,1,0,0,1,0,-1],[0,0,1,0,0,1,1],[1,1,1,1,0,1,0,-1],[0,1,1,1,0,0,1]] rfl h0 h1 h2 (tnF (x+y)) (tnF (x+z))
theorem o741 {x y:Nat}:y≤9999→x≤y→x≤100000:=lin [y,x] [] [.nle .a0 (.k 9999),.nle .a1 .a0] (.nle .a1 (.k 100000)) [[1,1,1]] rfl
theorem o742 {x y:Nat}:x<y→y≤x→False:=lin [x,y] [] [.nlt .a0 .a1,.nle .a1 .a0] .fls [[1,1]] rfl
theorem o747 {x y z:Nat}:y<z→z≤x→x≠y:=lin [y,z,x] [] [.nlt .a0 .a1,.nle .a1 .a2,.neq .a2 .a0] .fls [[1,1,1]] rfl
theorem o759 {x y z u:Nat}:z≤y→x<u→u≤z→x≠y:=lin [z,y,x,u] [] [.nle .a0 .a1,.nlt .a2 .a3,.nle .a3 .a0,.neq .a2 .a1] .fls [[1,1,1,-1]] rfl
theorem o764 {x:Int}:1≤x→1≤x+1:=lin [] [x] [.ile .k1 .a0] (.ile .k1 (.p .a0 .k1)) [[1,1]] rfl
theorem o768:(0:Int)≤(0:Int):=(Int.natCast_nonneg _)
theorem o788 {x:Nat}{y:Int}:y<12→(x:Int)=1+y→Int.natAbs (x:Int)<2^62:=fun h0 h1=>lin [x,(Int.natAbs (x:Int))] [y] [.ilt .a0 (.k 12),.ieq (.n .a0) (.p .k1 .a0),(.or (.an (.ile .k0 (.n .a0)) (.ieq (.n .a1) (.n .a0))) (.an (.ile (.n .a0) .k0) (.ieq (.n .a1) (.g (.n .a0)))))] (.nlt .a1 (.k (2^62))) [[1,1,1,0,1],[1,0,0,0,1]] rfl h0 h1 (naF (x:Int))
theorem o789:(30:Int)≤(30:Int):=(Int.le_refl _)
theorem o790 {x:Int}:¬30<x→x≤30:=(Int.not_lt.mp)
theorem o791 {x:Int}:x≤30→x≤282429536481:=(fun h=>Int.le_trans h (by decide))
theorem o792 {x y z:Nat}:x≤y→y<z→y<x∨z≤y→False:=lin [x,y,z] [] [.nle .a0 .a1,.nlt .a1 .a2,.or (.nlt .a1 .a0) (.nle .a2 .a1)] .fls [[1,0,1],[0,1,1]] rfl
theorem o793 {x y z:Nat}:z≤y→x+(y - z)+z=x+y:=fun h0=>lin [z,y,x,(y - z)] [] [.nle .a0 .a1,.or (.an (.nle .a1 .a0) (.neq .a3 .k0)) (.an (.nle .a0 .a1) (.neq (.p .a3 .a0) .a1))] (.neq (.p (.p .a2 .a3) .a0) (.p .a2 .a1)) [[1,0,1,-1],[1,0,0,-1],[1,1,0,1],[1,0,0,1]] rfl h0 (sbF y z)
theorem o794 {x y:Nat}:x+1≤y→x≠y:=(Nat.ne_of_lt)
theorem o795 {x y:Nat}:y≤99999→x=y→x≤100000:=lin [y,x] [] [.nle .a0 (.k 99999),.neq .a1 .a0] (.nle .a1 (.k 100000)) [[1,1,1]] rfl
theorem o796 {x y z:Nat}:y<x→z<x→¬x=y∧¬x=z:=lin [y,x,z] [] [.nlt .a0 .a1,.nlt .a2 .a1] (.an (.no (.neq .a1 .a0)) (.no (.neq .a1 .a2))) [[1,1],[1,0,1]] rfl
theorem o797 {x y:Nat}:x≤99→250≤y→x+14<y:=lin [x,y] [] [.nle .a0 (.k 99),.nle (.k 250) .a1] (.nlt (.p .a0 (.k 14)) .a1) [[1,1,1]] rfl
theorem o798 {x:Nat}:x≤99→x≤99999:=(fun h=>Oz.g2 h (by decide))
theorem o799 {x:Nat}:x≤98→x+1≤99:=(Nat.lt_succ_of_le)
theorem o800 {x y z u:Nat}:y+z≤99→x=y+u→u<z→x≤98:=lin [y,z,x,u] [] [.nle (.p .a0 .a1) (.k 99),.neq .a2 (.p .a0 .a3),.nlt .a3 .a1] (.nle .a2 (.k 98)) [[1,1,1,1]] rfl
theorem o801 {x y z:Nat}:x<Min.min z y→x<y:=fun h0=>lin [x,(Min.min z y),y,z] [] [.nlt .a0 .a1,.or (.an (.nle .a3 .a2) (.neq .a1 .a3)) (.an (.nle .a2 .a3) (.neq .a1 .a2))] (.nlt .a0 .a2) [[1,1,1,1],[1,1,0,1]] rfl h0 (mnF z y)
theorem o802 {x y z:Nat}:x<Min.min y z→x=y→False:=fun h0 h1=>lin [x,(Min.min y z),y,z] [] [.nlt .a0 .a1,.neq .a0 .a2,.or (.an (.nle .a2 .a3) (.neq .a1 .a2)) (.an (.nle .a3 .a2) (.neq .a1 .a3))] .fls [[1,-1,0,1],[1,-1,1,1]] rfl h0 h1 (mnF y z)
theorem o803 {x y z u:Nat}:u=y+z→x=u+1→x=y+(z+1):=lin [u,y,z,x] [] [.neq .a0 (.p .a1 .a2),.neq .a3 (.p .a0 .k1)] (.neq .a3 (.p .a1 (.p .a2 .k1))) [[1,-1,-1],[1,1,1]] rfl
theorem o804 {x y:Nat}:y=x∨y=x+2→x≤y:=lin [y,x] [] [.or (.neq .a0 .a1) (.neq .a0 (.p .a1 (.k 2)))] (.nle .a1 .a0) [[1,-1],[1,-1]] rfl
theorem o805 {x y:Nat}:x<y→¬x=y∧¬x=y+2:=lin [x,y] [] [.nlt .a0 .a1] (.an (.no (.neq .a0 .a1)) (.no (.neq .a0 (.p .a1 (.k 2))))) [[-1,1],[-1,1]] rfl
theorem o806 {x y z u:Nat}:y<u→z<u→u+2<x→¬x=y∧¬x=z∧¬x=u∧¬x=u+2:=lin [y,u,z,x] [] [.nlt .a0 .a1,.nlt .a2 .a1,.nlt (.p .a1 (.k 2)) .a3] (.an (.no (.neq .a3 .a0)) (.an (.no (.neq .a3 .a2)) (.an (.no (.neq .a3 .a1)) (.no (.neq .a3 (.p .a1 (.k 2))))))) [[1,1,0,1],[1,0,1,1],[1,0,0,1],[1,0,0,1]] rfl
theorem o807 {x y:Nat}:y<x→x+2≠y:=lin [y,x] [] [.nlt .a0 .a1,.neq (.p .a1 (.k 2)) .a0] .fls [[1,1]] rfl
theorem o808 {x y z:Nat}:x≤y→y<z→z≤99→x≤98:=lin [x,y,z] [] [.nle .a0 .a1,.nlt .a1 .a2,.nle .a2 (.k 99)] (.nle .a0 (.k 98)) [[1,1,1,1]] rfl
theorem o809 {x y:Nat}:x<y→x≠y+2:=lin [x,y] [] [.nlt .a0 .a1,.neq .a0 (.p .a1 (.k 2))] .fls [[1,-1]] rfl
theorem o810 {x y z:Nat}:z≤y→x=z+1→x≤y+1:=lin [z,y,x] [] [.nle .a0 .a1,.neq .a2 (.p .a0 .k1)] (.nle .a2 (.p .a1 .k1)) [[1,1,1]] rfl
theorem o811 {x y z u:Nat}:x=y∨x=z∨x=u∨x=u+2→(x=y∨x=z)∨u≤x:=lin [x,y,z,u] [] [(.or (.neq .a0 .a1) (.or (.neq .a0 .a2) (.or (.neq .a0 .a3) (.neq .a0 (.p .a3 (.k 2))))))] (.or (.or (.neq .a0 .a1) (.neq .a0 .a2)) (.nle .a3 .a0)) [[1,0,0,-1],[0,1,0,-1],[0,0,1,-1],[0,0,1,-1],[1,0,0,-1],[0,1,0,1],[0,0,1,-1],[0,0,1,-1],[1,0,0,1],[0,1,0,-1],[0,0,1,-1],[0,0,1,-1],[1,0,0,1],[0,1,0,1],[0,0,1,-1],[0,0,1,-1]] rfl
theorem o812 {x:Nat}:250≤x→120≤x:=(fun h=>Oz.g2 (by decide) h)
theorem o813 {x y z:Nat}:x<z→z≤y→x+1≤y:=(Oz.g27)
theorem o814 {x:Nat}:x≤900→x≤99999:=(fun h=>Oz.g2 h (by decide))
theorem o815 {x:Nat}:1≤(x:Int)+1:=lin [x] [] [] (.ile .k1 (.p (.n .a0) .k1)) [[1]] rfl
theorem o816 {x:Nat}:x≤12→(x:Int)+1≤282429536481:=lin [x] [] [.nle .a0 (.k 12)] (.ile (.p (.n .a0) .k1) (.k 282429536481)) [[1,1]] rfl
theorem o817 {x y z u v:Nat}:x<z→z≤u→u<v→v≤y→x+1≤y:=lin [x,z,u,v,y] [] [.nlt .a0 .a1,.nle .a1 .a2,.nlt .a2 .a3,.nle .a3 .a4] (.nle (.p .a0 .k1) .a4) [[1,1,1,1,1]] rfl
theorem o818 {x:Nat}:x≤900→x≤99998:=(fun h=>Oz.g2 h (by decide))
theorem o819 {x y z u:Nat}:x≤4→z≤12→y≤2*u→u<z+1→x+y≤900:=lin [x,z,y,u] [] [.nle .a0 (.k 4),.nle .a1 (.k 12),.nle .a2 (.m 2 .a3),.nlt .a3 (.p .a1 .k1)] (.nle (.p .a0 .a2) (.k 900)) [[1,1,2,1,2]] rfl
theorem o820 {x y z:Nat}:x≤2*z→y≤2→x+y≤2*(z+1):=(Nat.add_le_add)
theorem o821 {x y:Nat}:y≤12→x≤2*(y+1)→x≤26:=lin [y,x] [] [.nle .a0 (.k 12),.nle .a1 (.m 2 (.p .a0 .k1))] (.nle .a1 (.k 26)) [[1,2,1]] rfl
theorem o822 {x y z:Nat}:x≤40→z=2→x+2*Min.min y z≤900:=fun h0 h1=>lin [x,z,(Min.min y z),y] [] [.nle .a0 (.k 40),.neq .a1 (.k 2),.or (.an (.nle .a3 .a1) (.neq .a2 .a3)) (.an (.nle .a1 .a3) (.neq .a2 .a1))] (.nle (.p .a0 (.m 2 .a2)) (.k 900)) [[1,1,2,2,2],[1,1,2,0,2]] rfl h0 h1 (mnF y z)
theorem o823 {x y:Nat}:2*Min.min x y+2=2*(Min.min x y+1):=rfl
theorem o824 {x:Nat}:x≤26→4+x≤40:=(fun h=>Nat.add_le_add (by decide) h)
theorem o825 {x:Nat}:x≤26→4+x+4≤900:=lin [x] [] [.nle .a0 (.k 26)] (.nle (.p (.p (.k 4) .a0) (.k 4)) (.k 900)) [[1,1]] rfl
theorem o826 {x:Nat}:x≤26→4+x+4+1≤900:=lin [x] [] [.nle .a0 (.k 26)] (.nle (.p (.p (.p (.k 4) .a0) (.k 4)) .k1) (.k 900)) [[1,1]] rfl
theorem o827 {x:Nat}:x+1≤12→x≤12:=(Nat.le_of_lt)
theorem o828 {x:Int}:1*2≤x→2≤x:=(id)
theorem o829 {x:Nat}:x≤1→x≤1+0:=(id)
theorem o830 {x y:Nat}:x≤1+y→x≤1+(y+1):=(Nat.le_succ_of_le)
theorem o831 {x y z:Nat}:y≤6→x≤1+z→z<y→x≤98:=lin [y,x,z] [] [.nle .a0 (.k 6),.nle .a1 (.p .k1 .a2),.nlt .a2 .a0] (.nle .a1 (.k 98)) [[1,1,1,1]] rfl
theorem o832 {x y z:Nat}:z≤1+y→x=z+1→x≤1+(y+1):=lin [z,y,x] [] [.nle .a0 (.p .k1 .a1),.neq .a2 (.p .a0 .k1)] (.nle .a2 (.p .k1 (.p .a1 .k1))) [[1,1,1]] rfl
theorem o833 {x:Nat}:(x:Int)+2+1=(↑(x+1):Int)+2:=rfl
theorem o834 {x:Nat}:(↑(x+1):Int)+2=3+(x:Int):=lin [x] [] [] (.ieq (.p (.n (.p .a0 .k1)) (.k 2)) (.p (.k 3) (.n .a0))) [[1],[1]] rfl
theorem o835 {x y z:Nat}:x=z→y ≥ z→x≤y:=lin [x,z,y] [] [.neq .a0 .a1,.nle .a1 .a2] (.nle .a0 .a2) [[1,1,1]] rfl
theorem o836 {x:Nat}:0<x→(↑(x - 1):Int)=(x:Int) - 1:=fun h0=>lin [x,(x - 1)] [] [.nlt .k0 .a0,.or (.an (.nle .a0 .k1) (.neq .a1 .k0)) (.an (.nle .k1 .a0) (.neq (.p .a1 .k1) .a0))] (.ieq (.n .a1) (.s (.n .a0) .k1)) [[1,0,1,-1],[1,0,0,-1],[1,1,0,1],[1,0,0,1]] rfl h0 (sbF x 1)
theorem o837 {x:Nat}:x≤12→x≤99998:=(fun h=>Oz.g2 h (by decide))
theorem o838 {x:Nat}:x≤12→x≤12:=(id)
theorem o839 {x:Nat}:x≤13→x≤99999:=(fun h=>Oz.g2 h (by decide))
theorem o840 {x:Nat}:0=x→0<x→False:=lin [x] [] [.neq .k0 .a0,.nlt .k0 .a0] .fls [[-1,1]] rfl
theorem o841 {x y:Nat}:y≤13→x=y→x≤99999:=lin [y,x] [] [.nle .a0 (.k 13),.neq .a1 .a0] (.nle .a1 (.k 99999)) [[1,1,1]] rfl
theorem o842 {x y z u v w a:Nat}:x<z→z<u→u<v→v<w→w<a→a≤y→x+1≤y:=lin [x,z,u,v,w,a,y] [] [.nlt .a0 .a1,.nlt .a1 .a2,.nlt .a2 .a3,.nlt .a3 .a4,.nlt .a4 .a5,.nle .a5 .a6] (.nle (.p .a0 .k1) .a6) [[1,1,1,1,1,1,1]] rfl
theorem o843 {x y z:Nat}:x<z→z<y→x+1≤y:=(Nat.lt_trans)
theorem o844 {x y z u v w:Nat}:x<z→z<u→u<v→v≤w→w<y→x<y:=lin [x,z,u,v,w,y] [] [.nlt .a0 .a1,.nlt .a1 .a2,.nlt .a2 .a3,.nle .a3 .a4,.nlt .a4 .a5] (.nlt .a0 .a5) [[1,1,1,1,1,1]] rfl
theorem o845 {x y z u v:Nat}:x<z→z<u→u<v→v<y→x+1≤y:=lin [x,z,u,v,y] [] [.nlt .a0 .a1,.nlt .a1 .a2,.nlt .a2 .a3,.nlt .a3 .a4] (.nle (.p .a0 .k1) .a4) [[1,1,1,1,1]] rfl
theorem o846 {x y z u:Nat}:x<z→z≤u→u<y→x<y:=(fun a b c=>Nat.lt_trans a (Nat.lt_of_le_of_lt b c))
theorem o847 {x:Int}{y:Nat}:y=Int.toNat x→0≤x→x=(y:Int):=fun h0 h1=>lin [y,(Int.toNat x)] [x] [.neq .a0 .a1,.ile .k0 .a0,.or (.an (.ile .k0 .a0) (.ieq (.n .a1) .a0)) (.an (.ile .a0 .k0) (.neq .a1 .k0))] (.ieq .a0 (.n .a0)) [[1,1,0,0,1],[1,1,1,0,1],[1,-1,0,0,-1],[1,-1,0,1,-1]] rfl h0 h1 (tnF x)
theorem o848 {x y:Nat}{z:Int}:z<(y:Int)→z=(x:Int)→x<y:=lin [y,x] [z] [.ilt .a0 (.n .a0),.ieq .a0 (.n .a1)] (.nlt .a1 .a0) [[1,1,-1]] rfl
theorem o849 {x:Nat}:x≤99→(x:Int)≤282429536481:=lin [x] [] [.nle .a0 (.k 99)] (.ile (.n .a0) (.k 282429536481)) [[1,1]] rfl
theorem o850 {x y z u:Nat}:x<z→z≤u→u<y→x+1≤y:=(fun a b c=>Nat.lt_trans a (Nat.lt_of_le_of_lt b c))
theorem o851 {x y z:Nat}:Min.min x y - Min.min z y≤x - z:=lin [((Min.min x y) - (Min.min z y)),(x - z),(Min.min x y),(Min.min z y),x,z,y] [] [.or (.an (.nle .a2 .a3) (.neq .a0 .k0)) (.an (.nle .a3 .a2) (.neq (.p .a0 .a3) .a2)),.or (.an (.nle .a4 .a5) (.neq .a1 .k0)) (.an (.nle .a5 .a4) (.neq (.p .a1 .a5) .a4)),.or (.an (.nle .a4 .a6) (.neq .a2 .a4)) (.an (.nle .a6 .a4) (.neq .a2 .a6)),.or (.an (.nle .a5 .a6) (.neq .a3 .a5)) (.an (.nle .a6 .a5) (.neq .a3 .a6))] (.nle .a0 .a1) [[1,0,1,0,-1],[1,0,1,0,-1],[1,0,1,0,-1],[1,0,1,0,-1],[1,0,1,1,-1],[1,0,1,1,-1],[1,0,1,1,-1],[1,0,1,1,-1],[1,0,1,1,-1,0,1,0,-1],[1,0,1,0,-1,1,1,0,-1],[1,0,1,1,-1,1,1,0,-1],[1,0,1,0,-1,0,1,0,-1],[1,0,1,0,-1,0,1,0,-1],[1,0,1,1,-1,1,1,0,-1],[1,0,1,0,-1,1,1,0,-1],[1,0,1,1,-1,0,1,0,-1]] rfl (sbF (Min.min x y) (Min.min z y)) (sbF x z) (mnF x y) (mnF z y)
theorem o852 {x y:Nat}:(x:Int)<((y:Int)+2 - 1) / 2→2*x<y:=fun h0=>lin [x,y] [((((y:Int)+2) - 1) / 2)] [.ilt (.n .a0) .a0,(.an (.ile (.m 2 .a0) (.s (.p (.n .a1) (.k 2)) .k1)) (.ilt (.s (.p (.n .a1) (.k 2)) .k1) (.m 2 (.p .a0 .k1))))] (.nlt (.m 2 .a0) .a1) [[1,2,1]] rfl h0 (dvI (((y:Int)+2) - 1) 2 (by decide))
theorem o857 {x y:Nat}:(x:Int)<((y:Int) - 1+2 - 1) / 2→1+2*x<y:=fun h0=>lin [x,y] [(((((y:Int) - 1)+2) - 1) / 2)] [.ilt (.n .a0) .a0,(.an (.ile (.m 2 .a0) (.s (.p (.s (.n .a1) .k1) (.k 2)) .k1)) (.ilt (.s (.p (.s (.n .a1) .k1) (.k 2)) .k1) (.m 2 (.p .a0 .k1))))] (.nlt (.p .k1 (.m 2 .a0)) .a1) [[1,2,1]] rfl h0 (dvI ((((y:Int) - 1)+2) - 1) 2 (by decide))
theorem o859 {x y z:Nat}:x<y→2*z+1=x→(z:Int)<((y:Int) - 1+2 - 1) / 2:=fun h0 h1=>lin [x,y,z] [(((((y:Int) - 1)+2) - 1) / 2)] [.nlt .a0 .a1,.neq (.p (.m 2 .a2) .k1) .a0,(.an (.ile (.m 2 .a0) (.s (.p (.s (.n .a1) .k1) (.k 2)) .k1)) (.ilt (.s (.p (.s (.n .a1) .k1) (.k 2)) .k1) (.m 2 (.p .a0 .k1))))] (.ilt (.n .a2) .a0) [[2,1,1,0,1]] rfl h0 h1 (dvI ((((y:Int) - 1)+2) - 1) 2 (by decide))
theorem o854 {x y:Nat}:x<y→(↑(x / 2):Int)<((y:Int)+2 - 1) / 2:=fun h0=>lin [x,y,(x / 2)] [((((y:Int)+2) - 1) / 2)] [.nlt .a0 .a1,.an (.nle (.m 2 .a2) .a0) (.nlt .a0 (.m 2 (.p .a2 .k1))),(.an (.ile (.m 2 .a0) (.s (.p (.n .a1) (.k 2)) .k1)) (.ilt (.s (.p (.n .a1) (.k 2)) .k1) (.m 2 (.p .a0 .k1))))] (.ilt (.n .a2) .a0) [[2,1,1,0,0,1]] rfl h0 (dvF x 2 (by decide)) (dvI (((y:Int)+2) - 1) 2 (by decide))
theorem o862 {x y z:Nat}:x=y→x<z∧x % 2=1→y % 2=0→False:=fun a b c=>Nat.zero_ne_one (c.symm.trans ((congrArg (· % 2) a).symm.trans b.2))
theorem o863 {x y:Nat}:x - y≤x:=(Nat.sub_le _ _)
theorem o864 {x y:Nat}:x+y≤999→x+y≤100000:=(fun h=>Oz.g2 h (by decide))
theorem o865 {x:Nat}:x≤2→x≤9999:=(fun h=>Oz.g2 h (by decide))
theorem o868 {x:Nat}:x≤1→x≤99:=(fun h=>Oz.g2 h (by decide))
theorem o869 {x y:Nat}:x≤60→y≤1→x+y≤99:=lin [x,y] [] [.nle .a0 (.k 60),.nle .a1 .k1] (.nle (.p .a0 .a1) (.k 99)) [[1,1,1]] rfl
theorem o870 {x y:Nat}:x≤60→y≤1→x+y≤999:=lin [x,y] [] [.nle .a0 (.k 60),.nle .a1 .k1] (.nle (.p .a0 .a1) (.k 999)) [[1,1,1]] rfl
theorem o871 {x y:Nat}:x≤60→y≤1→x+y<64:=lin [x,y] [] [.nle .a0 (.k 60),.nle .a1 .k1] (.nlt (.p .a0 .a1) (.k 64)) [[1,1,1]] rfl
theorem o872 {x:Int}{y:Nat}:0≤x→y=Int.toNat x→x=(y:Int):=fun h0 h1=>lin [y,(Int.toNat x)] [x] [.ile .k0 .a0,.neq .a0 .a1,.or (.an (.ile .k0 .a0) (.ieq (.n .a1) .a0)) (.an (.ile .a0 .k0) (.neq .a1 .k0))] (.ieq .a0 (.n .a0)) [[1,0,1,0,1],[1,1,1,0,1],[1,0,-1,0,-1],[1,0,-1,1,-1]] rfl h0 h1 (tnF x)
theorem o873 {x y z:Nat}:x<z→z≤y→x≠y+2:=lin [x,z,y] [] [.nlt .a0 .a1,.nle .a1 .a2,.neq .a0 (.p .a2 (.k 2))] .fls [[1,1,-1]] rfl
theorem o874:(0:Int)≤(1:Int):=(Int.natCast_nonneg _)
theorem o875:(0:Int)≤(2:Int):=(Int.natCast_nonneg _)
theorem o876 {x:Int}:2≤x→0≤x - 2:=lin [] [x] [.ile (.k 2) .a0] (.ile .k0 (.s .a0 (.k 2))) [[1,1]] rfl
theorem o877 {x:Int}:2≤x→0≤x - 1:=lin [] [x] [.ile (.k 2) .a0] (.ile .k0 (.s .a0 .k1)) [[1,1]] rfl
theorem o878 {x y z:Nat}:y+2<z→z≤x→x≠y+2:=lin [y,z,x] [] [.nlt (.p .a0 (.k 2)) .a1,.nle .a1 .a2,.neq .a2 (.p .a0 (.k 2))] .fls [[1,1,1]] rfl
theorem o879 {x:Nat}:x≤99→x≤9999:=(fun h=>Oz.g2 h (by decide))
theorem o880 {x:Nat}:(x:Int) / 2=(↑(x / 2):Int):=rfl
theorem o881 {x:Nat}:x≤40→x≤99:=(fun h=>Oz.g2 h (by decide))
theorem o882 {x y:Nat}:y≤40→x≤y→x≤99:=lin [y,x] [] [.nle .a0 (.k 40),.nle .a1 .a0] (.nle .a1 (.k 99)) [[1,1,1]] rfl
theorem o883 {x y z:Nat}:z≤40→x≤z→y≤z→x+y≤99:=lin [z,x,y] [] [.nle .a0 (.k 40),.nle .a1 .a0,.nle .a2 .a0] (.nle (.p .a1 .a2) (.k 99)) [[1,2,1,1]] rfl
theorem o884 {x y z u:Nat}:z≤y→u≤z→x<u→x≠y:=lin [z,y,u,x] [] [.nle .a0 .a1,.nle .a2 .a0,.nlt .a3 .a2,.neq .a3 .a1] .fls [[1,1,1,-1]] rfl
theorem o885 {x y z u v w a:Nat}:z≤u→v≤w→v≤a→u≤v→x=w∨x=a→x<y∨z≤x:=lin [z,u,v,w,a,x,y] [] [.nle .a0 .a1,.nle .a2 .a3,.nle .a2 .a4,.nle .a1 .a2,.or (.neq .a5 .a3) (.neq .a5 .a4)] (.or (.nlt .a5 .a6) (.nle .a0 .a5)) [[0,1,1,1,0,1,-1],[0,1,1,0,1,1,-1]] rfl
theorem o886 {x y z u v w:Nat}:u<v→w<v→v≤y→x=u∨x=w→x<y∨z≤x:=lin [u,v,w,y,x,z] [] [.nlt .a0 .a1,.nlt .a2 .a1,.nle .a1 .a3,.or (.neq .a4 .a0) (.neq .a4 .a2)] (.or (.nlt .a4 .a3) (.nle .a5 .a4)) [[1,0,1,0,1,1],[1,0,0,1,1,1]] rfl
theorem o887 {x y z u:Nat}:x≤z→z≤u→u≤y→x≤y:=(fun a b c=>Oz.g2 a (Oz.g2 b c))
theorem o888 {x y z u v:Nat}:z≤u→z≤v→x≤z→y=u∨y=v→x≤y:=lin [z,u,v,x,y] [] [.nle .a0 .a1,.nle .a0 .a2,.nle .a3 .a0,.or (.neq .a4 .a1) (.neq .a4 .a2)] (.nle .a3 .a4) [[1,1,0,1,-1],[1,0,1,1,-1]] rfl
theorem o889 {x:Nat}:x≤60→x≤61:=(Nat.le_succ_of_le)
theorem o890 {x:Nat}:x≤60→x≤98:=(fun h=>Oz.g2 h (by decide))
theorem o891 {x y z u v:Nat}:u<y→v<y→x=u∨x=v→x<y∨z≤x:=lin [u,y,v,x,z] [] [.nlt .a0 .a1,.nlt .a2 .a1,.or (.neq .a3 .a0) (.neq .a3 .a2)] (.or (.nlt .a3 .a1) (.nle .a4 .a3)) [[1,0,1,0,1],[1,0,0,1,1]] rfl
theorem o892 {x y:Nat}:y≤60→x=y+1→x≤61:=lin [y,x] [] [.nle .a0 (.k 60),.neq .a1 (.p .a0 .k1)] (.nle .a1 (.k 61)) [[1,1,1]] rfl
theorem o893 {x y z:Nat}:x<z→z≤y→x≠y:=lin [x,z,y] [] [.nlt .a0 .a1,.nle .a1 .a2,.neq .a0 .a2] .fls [[1,1,-1]] rfl
theorem o894 {x y z u v w:Nat}:u≤v→u≤w→x=y∨x=z∨x=v∨x=w→(x=y∨x=z)∨u≤x:=lin [u,v,w,x,y,z] [] [.nle .a0 .a1,.nle .a0 .a2,.or (.neq .a3 .a4) (.or (.neq .a3 .a5) (.or (.neq .a3 .a1) (.neq .a3 .a2)))] (.or (.or (.neq .a3 .a4) (.neq .a3 .a5)) (.nle .a0 .a3)) [[1,0,0,0,0,-1],[0,1,0,0,0,-1],[0,0,1,1,0,-1],[0,0,1,0,1,-1],[1,0,0,0,0,-1],[0,1,0,0,0,1],[0,0,1,1,0,-1],[0,0,1,0,1,-1],[1,0,0,0,0,1],[0,1,0,0,0,-1],[0,0,1,1,0,-1],[0,0,1,0,1,-1],[1,0,0,0,0,1],[0,1,0,0,0,1],[0,0,1,1,0,-1],[0,0,1,0,1,-1]] rfl
theorem o895 {x:Nat}:x≤60→x≤99999:=(fun h=>Oz.g2 h (by decide))
theorem o896 {x:Nat}:x≤60→x≤998:=(fun h=>Oz.g2 h (by decide))
theorem o897 {x:Nat}:x≤60→x+1<64:=lin [x] [] [.nle .a0 (.k 60)] (.nlt (.p .a0 .k1) (.k 64)) [[1,1]] rfl
theorem o898 {x:Nat}:x≤61→x≤99999:=(fun h=>Oz.g2 h (by decide))
theorem o899 {x:Int}:x<x→False:=lin [] [x] [.ilt .a0 .a0] .fls [[1]] rfl
theorem o900 {x:Int}:x≤x - 1→False:=lin [] [x] [.ile .a0 (.s .a0 .k1)] .fls [[1]] rfl
theorem o901 {x y:Nat}:y≤40→x≤y→x≤98:=lin [y,x] [] [.nle .a0 (.k 40),.nle .a1 .a0] (.nle .a1 (.k 98)) [[1,1,1]] rfl
theorem o902 {x y z u:Nat}:z≤x→y<u→u≤z→x≠y:=lin [z,x,y,u] [] [.nle .a0 .a1,.nlt .a2 .a3,.nle .a3 .a0,.neq .a1 .a2] .fls [[1,1,1,1]] rfl
theorem o903 {x y z u v w a:Nat}:v≤w→v≤a→u≤v→x=y∨x=z∨x=w∨x=a→(x=y∨x=z)∨u≤x:=lin [v,w,a,u,x,y,z] [] [.nle .a0 .a1,.nle .a0 .a2,.nle .a3 .a0,.or (.neq .a4 .a5) (.or (.neq .a4 .a6) (.or (.neq .a4 .a1) (.neq .a4 .a2)))] (.or (.or (.neq .a4 .a5) (.neq .a4 .a6)) (.nle .a3 .a4)) [[1,0,0,0,0,0,-1],[0,1,0,0,0,0,-1],[0,0,1,1,0,1,-1],[0,0,1,0,1,1,-1],[1,0,0,0,0,0,-1],[0,1,0,0,0,0,1],[0,0,1,1,0,1,-1],[0,0,1,0,1,1,-1],[1,0,0,0,0,0,1],[0,1,0,0,0,0,-1],[0,0,1,1,0,1,-1],[0,0,1,0,1,1,-1],[1,0,0,0,0,0,1],[0,1,0,0,0,0,1],[0,0,1,1,0,1,-1],[0,0,1,0,1,1,-1]] rfl
theorem o904 {x:Nat}:x≤40→x≤9999:=(fun h=>Oz.g2 h (by decide))
theorem o905 {x:Nat}:x≤40→x - 1≤60:=fun h0=>lin [x,(x - 1)] [] [.nle .a0 (.k 40),.or (.an (.nle .a0 .k1) (.neq .a1 .k0)) (.an (.nle .k1 .a0) (.neq (.p .a1 .k1) .a0))] (.nle .a1 (.k 60)) [[1,0,0,1],[1,1,0,1]] rfl h0 (sbF x 1)
theorem o906 {x y z u:Nat}:z≤y→x≤u→u≤z→x≤y:=lin [z,y,x,u] [] [.nle .a0 .a1,.nle .a2 .a3,.nle .a3 .a0] (.nle .a2 .a1) [[1,1,1,1]] rfl
theorem o907 {x:Nat}:x=4→x≤99999:=lin [x] [] [.neq .a0 (.k 4)] (.nle .a0 (.k 99999)) [[1,1]] rfl
theorem o908 {x y z u v w:Nat}:x≤z→z≤u→u≤v→v≤w→w<y→x≤y:=lin [x,z,u,v,w,y] [] [.nle .a0 .a1,.nle .a1 .a2,.nle .a2 .a3,.nle .a3 .a4,.nlt .a4 .a5] (.nle .a0 .a5) [[1,1,1,1,1,1]] rfl
theorem o909 {x y z u v w a:Nat}:x≤z→z≤u→u≤v→v≤w→w<a→a≤y→x≤y:=lin [x,z,u,v,w,a,y] [] [.nle .a0 .a1,.nle .a1 .a2,.nle .a2 .a3,.nle .a3 .a4,.nlt .a4 .a5,.nle .a5 .a6] (.nle .a0 .a6) [[1,1,1,1,1,1,1]] rfl
theorem o910 {x y z u v:Nat}:x≤z→z≤u→u≤v→v≤y→x≤y:=lin [x,z,u,v,y] [] [.nle .a0 .a1,.nle .a1 .a2,.nle .a2 .a3,.nle .a3 .a4] (.nle .a0 .a4) [[1,1,1,1,1]] rfl
theorem o911 {x y z:Nat}:x<z→z≤y→x<y:=(Oz.g27)
theorem o912 {x:Nat}:x≤40→x≤99999:=(fun h=>Oz.g2 h (by decide))
theorem o913 {x:Nat}:x≤40→x<64:=(fun h=>Nat.lt_of_le_of_lt h (by decide))
theorem o914 {x:Nat}:x≤40→x≤98:=(fun h=>Oz.g2 h (by decide))
theorem o915 {x:Nat}:x≤40→x≤998:=(fun h=>Oz.g2 h (by decide))
theorem o916 {x:Nat}:x≤40→x+1<64:=lin [x] [] [.nle .a0 (.k 40)] (.nlt (.p .a0 .k1) (.k 64)) [[1,1]] rfl
theorem o917 {x:Nat}:(x:Int) % 12=(↑(x % 12):Int):=rfl
theorem o918 {x:Nat}:(x:Int) % 2=(↑(x % 2):Int):=rfl
theorem o919 {x:Nat}:1≤x % 12+1:=(Nat.succ_pos _)
theorem o920 {x:Nat}:x % 12+1≤12:=Nat.mod_lt _ (by decide)
theorem o921 {x:Int}:2≤x→x<4→x=2∨x=3:=lin [] [x] [.ile (.k 2) .a0,.ilt .a0 (.k 4)] (.or (.ieq .a0 (.k 2)) (.ieq .a0 (.k 3))) [[1,0,1],[0,1,0,1],[1,1],[0,1,0,1]] rfl
theorem o922 {x:Int}:4≤x→2≤x:=(fun h=>Int.le_trans (by decide) h)
theorem o923 {x:Nat}:(1:Nat)≤x→x % (2:Nat)=(0:Nat)→(1:Nat)≤x / (2:Nat):=fun a b=>(Nat.le_div_iff_mul_le Nat.two_pos).mpr (Nat.lt_of_le_of_ne a fun e=>by rw [← e] at b; cases b)
theorem o924 {x:Nat}:x≤12→x / 2≤12:=fun h0=>lin [x,(x / 2)] [] [.nle .a0 (.k 12),.an (.nle (.m 2 .a1) .a0) (.nlt .a0 (.m 2 (.p .a1 .k1)))] (.nle .a1 (.k 12)) [[1,1,1]] rfl h0 (dvF x 2 (by decide))
theorem o925 {x:Int}:2≤x→x<4→Int.natAbs x<2^64:=fun h0 h1=>lin [(Int.natAbs x)] [x] [.ile (.k 2) .a0,.ilt .a0 (.k 4),.or (.an (.ile .k0 .a0) (.ieq (.n .a0) .a0)) (.an (.ile .a0 .k0) (.ieq (.n .a0) (.g .a0)))] (.nlt .a0 (.k (2^64))) [[1,0,1,0,1],[0,1,0,0,1]] rfl h0 h1 (naF x)
theorem o926 {x y:Nat}:x≤y→x≤y+2:=(Nat.le_add_right_of_le)
theorem o927 {x:Nat}:¬x % 2=0→¬(↑(x % 2):Int)=0:=lin [(x % 2)] [] [.no (.neq .a0 .k0),.ieq (.n .a0) .k0] .fls [[1,-1],[1,1]] rfl
theorem o928 {x:Nat}:x % (12:Nat)+(1:Nat)≠x:=by intros; lia
theorem o929 {x:Nat}:x≤1→x≤99999:=(fun h=>Oz.g2 h (by decide))
theorem o930 {x y z u v:Nat}:u≤x→y<v→z<v→v≤u→¬x=y∧¬x=z:=lin [u,x,y,v,z] [] [.nle .a0 .a1,.nlt .a2 .a3,.nlt .a4 .a3,.nle .a3 .a0] (.an (.no (.neq .a1 .a2)) (.no (.neq .a1 .a4))) [[1,1,1,0,1],[1,1,0,1,1]] rfl
theorem o931 {x y z u:Nat}:x≤z→x≤u→y=z∨y=u→x≤y:=lin [x,z,u,y] [] [.nle .a0 .a1,.nle .a0 .a2,.or (.neq .a3 .a1) (.neq .a3 .a2)] (.nle .a0 .a3) [[1,1,0,-1],[1,0,1,-1]] rfl
theorem o932 {x:Int}:2≤x→x<8→x % 8=x:=fun a b=>Int.emod_eq_of_lt (Int.le_trans (by decide) a) b
theorem o933 {x:Int}:x≤9→¬x<8→x % 8=x - 8:=fun a b=>(Int.sub_emod_right _ _).symm.trans (Int.emod_eq_of_lt (Int.sub_nonneg_of_le (Int.not_lt.mp b)) (Int.sub_right_lt_of_lt_add (Int.lt_of_le_of_lt a (by decide))))
theorem o934 {x:Int}:2≤x→2≤x+2:=lin [] [x] [.ile (.k 2) .a0] (.ile (.k 2) (.p .a0 (.k 2))) [[1,1]] rfl
theorem o935 {x:Int}:¬x<8→2≤x - 8+2:=lin [] [x] [.no (.ilt .a0 (.k 8))] (.ile (.k 2) (.p (.s .a0 (.k 8)) (.k 2))) [[1,1]] rfl
theorem o936 {x:Int}:x<8→x+2≤9:=lin [] [x] [.ilt .a0 (.k 8)] (.ile (.p .a0 (.k 2)) (.k 9)) [[1,1]] rfl
theorem o937 {x:Int}:x≤9→x - 8+2≤9:=lin [] [x] [.ile .a0 (.k 9)] (.ile (.p (.s .a0 (.k 8)) (.k 2)) (.k 9)) [[1,1]] rfl
theorem o938 {x:Int}:x+2≠x:=lin [] [x] [.ieq (.p .a0 (.k 2)) .a0] .fls [[1]] rfl
theorem o939 {x:Int}:x - 8+2≠x:=lin [] [x] [.ieq (.p (.s .a0 (.k 8)) (.k 2)) .a0] .fls [[-1]] rfl
theorem o940 {x:Nat}:x≤1→x≤60:=(fun h=>Oz.g2 h (by decide))
theorem o941 {x y:Nat}:0≠x→0≠y→¬0=x∧¬0=y:=(And.intro)
theorem o942 {x y z u:Nat}:0≠x→0≠y→0≠z→0≠u→¬0=x∧¬0=y∧¬0=z∧¬0=u:=lin [x,y,z,u] [] [.no (.neq .k0 .a0),.no (.neq .k0 .a1),.no (.neq .k0 .a2),.no (.neq .k0 .a3)] (.an (.no (.neq .k0 .a0)) (.an (.no (.neq .k0 .a1)) (.an (.no (.neq .k0 .a2)) (.no (.neq .k0 .a3))))) [[-1,1],[-1,0,0,0,1],[-1,0,0,1],[-1,0,0,0,1],[-1,0,1],[-1,0,0,0,1],[-1,0,0,1],[-1,0,0,0,1],[-1,1],[-1,0,0,0,1],[-1,0,0,1],[-1,0,0,0,1],[-1,0,1],[-1,0,0,0,1],[-1,0,0,1],[-1,0,0,0,1],[-1,0,1],[-1,0,0,0,1],[-1,0,0,1],[-1,0,0,0,1],[-1,0,1],[-1,0,0,0,1],[-1,0,0,1],[-1,0,0,0,1],[-1,0,1],[-1,0,0,0,1],[-1,0,0,1],[-1,0,0,0,1],[-1,0,1],[-1,0,0,0,1],[-1,0,0,1],[-1,0,0,0,1],[-1,0,0,1],[-1,0,0,0,1],[-1,0,0,1],[-1,0,0,0,1],[-1,0,0,1],[-1,0,0,0,1],[-1,0,0,1],[-1,0,0,0,1],[-1,0,0,1],[-1,0,0,0,1],[-1,0,0,1],[-1,0,0,0,1],[-1,0,0,1],[-1,0,0,0,1],[-1,0,0,1],[-1,0,0,0,1],[-1,0,0,0,1],[-1,0,0,0,1],[-1,0,0,0,1],[-1,0,0,0,1],[-1,0,0,0,1],[-1,0,0,0,1],[-1,0,0,0,1],[-1,0,0,0,1],[-1,0,0,0,1],[-1,0,0,0,1],[-1,0,0,0,1],[-1,0,0,0,1],[-1,0,0,0,1],[-1,0,0,0,1],[-1,0,0,0,1],[-1,0,0,0,1]] rfl
theorem o943 {x y:Int}:x≤y→y<x→False:=lin [] [x,y] [.ile .a0 .a1,.ilt .a1 .a0] .fls [[1,1]] rfl
theorem o944 {x y z u v:Nat}:y<z→u≤x→z≤v→v≤u→x≠y:=lin [y,z,u,x,v] [] [.nlt .a0 .a1,.nle .a2 .a3,.nle .a1 .a4,.nle .a4 .a2,.neq .a3 .a0] .fls [[1,1,1,1,1]] rfl
theorem o945 {x y z u v w:Nat}:z≤u→x≤v→v≤w→u<y→w<z→x≤y:=lin [z,u,x,v,w,y] [] [.nle .a0 .a1,.nle .a2 .a3,.nle .a3 .a4,.nlt .a1 .a5,.nlt .a4 .a0] (.nle .a2 .a5) [[1,1,1,1,1,1]] rfl
theorem o946 {x y z u v:Nat}:x<z→u≤y→z≤v→v<u→x≠y:=lin [x,z,u,y,v] [] [.nlt .a0 .a1,.nle .a2 .a3,.nle .a1 .a4,.nlt .a4 .a2,.neq .a0 .a3] .fls [[1,1,1,1,-1]] rfl
theorem o947 {x y z:Nat}:z≤y→x<z→x≠y:=lin [z,y,x] [] [.nle .a0 .a1,.nlt .a2 .a0,.neq .a2 .a1] .fls [[1,1,-1]] rfl
theorem o948 {x y z:Nat}:x<y→z<y→x<y∧z<y:=(And.intro)
theorem o949 {x y z u v w:Nat}:u≤y→u≤z→x≤v→v≤w→w<u→x≤y∧x≤z:=lin [u,y,z,x,v,w] [] [.nle .a0 .a1,.nle .a0 .a2,.nle .a3 .a4,.nle .a4 .a5,.nlt .a5 .a0] (.an (.nle .a3 .a1) (.nle .a3 .a2)) [[1,1,0,1,1,1],[1,0,1,1,1,1]] rfl
theorem o950 {x y z u v w a b:Nat}:x<u→z<u→v≤w→u≤a→w<b→b≤y→a<v→x<y∧z<y:=lin [x,u,z,v,w,a,b,y] [] [.nlt .a0 .a1,.nlt .a2 .a1,.nle .a3 .a4,.nle .a1 .a5,.nlt .a4 .a6,.nle .a6 .a7,.nlt .a5 .a3] (.an (.nlt .a0 .a7) (.nlt .a2 .a7)) [[1,1,0,1,1,1,1,1],[1,0,1,1,1,1,1,1]] rfl
theorem o951 {x y z u:Nat}:x<u→z<u→u≤y→x<y∧z<y:=lin [x,u,z,y] [] [.nlt .a0 .a1,.nlt .a2 .a1,.nle .a1 .a3] (.an (.nlt .a0 .a3) (.nlt .a2 .a3)) [[1,1,0,1],[1,0,1,1]] rfl
theorem o952 {x y z u v w a b:Nat}:z≤u→x≤v→v≤w→u<a→a≤b→w<z→b≤y→x≤y:=lin [z,u,x,v,w,a,b,y] [] [.nle .a0 .a1,.nle .a2 .a3,.nle .a3 .a4,.nlt .a1 .a5,.nle .a5 .a6,.nlt .a4 .a0,.nle .a6 .a7] (.nle .a2 .a7) [[1,1,1,1,1,1,1,1]] rfl
theorem o953 {x:Nat}:x≤63→x≤9999:=(fun h=>Oz.g2 h (by decide))
theorem o954 {x:Nat}:x<24→Int.natAbs (x:Int)<2^64:=(fun h=>Nat.lt_trans h (by decide))
theorem o955 {x:Nat}:x≤15→x≤24:=(fun h=>Oz.g2 h (by decide))
theorem o956 {x y z u:Nat}:z≤24→250≤y→x≤u→u<z→x+15<y:=lin [z,y,x,u] [] [.nle .a0 (.k 24),.nle (.k 250) .a1,.nle .a2 .a3,.nlt .a3 .a0] (.nlt (.p .a2 (.k 15)) .a1) [[1,1,1,1,1]] rfl
theorem o957 {x y z u:Nat}:y≤24→z≤u→u<y→x≤z+1→x≤99:=lin [y,z,u,x] [] [.nle .a0 (.k 24),.nle .a1 .a2,.nlt .a2 .a0,.nle .a3 (.p .a1 .k1)] (.nle .a3 (.k 99)) [[1,1,1,1,1]] rfl
theorem o958 {x y z:Nat}:z≤y→x≤z+1→x≤y+1:=lin [z,y,x] [] [.nle .a0 .a1,.nle .a2 (.p .a0 .k1)] (.nle .a2 (.p .a1 .k1)) [[1,1,1]] rfl
theorem o959 {x y:Nat}:y≤24→x≤y→x≤24:=(fun a b=>Oz.g2 b a)
theorem o960 {x:Nat}{y:Int}:0≤y→(x:Int)=1+y→1≤x:=lin [x] [y] [.ile .k0 .a0,.ieq (.n .a0) (.p .k1 .a0)] (.nle .k1 .a0) [[1,1,-1]] rfl
theorem o961 {x:Nat}{y:Int}:y<12→(x:Int)=1+y→x≤12:=lin [x] [y] [.ilt .a0 (.k 12),.ieq (.n .a0) (.p .k1 .a0)] (.nle .a0 (.k 12)) [[1,1,1]] rfl
theorem o962 {x y z:Nat}:z≤x→y+2<z→x≠y+2:=lin [z,x,y] [] [.nle .a0 .a1,.nlt (.p .a2 (.k 2)) .a0,.neq .a1 (.p .a2 (.k 2))] .fls [[1,1,1]] rfl
theorem o963 {x:Nat}:x≤24→x≤40:=(fun h=>Oz.g2 h (by decide))
theorem o964 {x y:Nat}:x=1→x≤y→¬0=x∧¬0=y:=lin [x,y] [] [.neq .a0 .k1,.nle .a0 .a1] (.an (.no (.neq .k0 .a0)) (.no (.neq .k0 .a1))) [[-1,-1],[-1,-1,1]] rfl
theorem o966 {x y:Int}:0≤x→x<y→0≤x∧x<y:=(And.intro)
theorem o967 {x y z:Nat}:y<z→z<x→x≠y:=lin [y,z,x] [] [.nlt .a0 .a1,.nlt .a1 .a2,.neq .a2 .a0] .fls [[1,1,1]] rfl
theorem o968 {x y z:Nat}:x=y+1→y+(z+1)≤99998→x≤99998:=lin [x,y,z] [] [.neq .a0 (.p .a1 .k1),.nle (.p .a1 (.p .a2 .k1)) (.k 99998)] (.nle .a0 (.k 99998)) [[1,1,1]] rfl
theorem o969 {x y:Nat}:x+(y+1)≤99998→x+1+y≤99998:=lin [x,y] [] [.nle (.p .a0 (.p .a1 .k1)) (.k 99998)] (.nle (.p (.p .a0 .k1) .a1) (.k 99998)) [[1,1]] rfl
theorem o970 {x:Nat}{x_1:Int}:(↑x:Int)≤x_1+(1:Int)→x_1≤(↑(12:Nat):Int)*(9:Int)→x≤(109:Nat):=by intros; lia
theorem o971 {x y:Nat}:x+1=y→y<x→False:=lin [x,y] [] [.neq (.p .a0 .k1) .a1,.nlt .a1 .a0] .fls [[1,1]] rfl
theorem o972 {x y:Nat}:120≤y→x≤109→x≤y:=lin [y,x] [] [.nle (.k 120) .a0,.nle .a1 (.k 109)] (.nle .a1 .a0) [[1,1,1]] rfl
theorem o973 {x:Nat}:x≤109→0+x≤99998:=(fun h=>Nat.add_le_add (by decide) h)
theorem o974 {x y:Nat}:x<y→x=y+1→False:=lin [x,y] [] [.nlt .a0 .a1,.neq .a0 (.p .a1 .k1)] .fls [[1,-1]] rfl
end Oz
namespace Sk
open PySem (Str)
inductive AV where
 | none | bool (b:Bool) | int (i:Int) | str (s:Str) | ref (a:Nat)
 deriving DecidableEq
inductive AO where
 | list (vs:List AV)
 | tup (vs:List AV)
 | fields (fs:List (Nat×AV))
 | inst (c:Nat) (d:Nat)
 | dict (ks:List Int)
 | exc (c:Nat)
 | const (vs:List AV)
 deriving DecidableEq
noncomputable abbrev HP:=List AO
noncomputable abbrev LOC:=List (Option AV)
inductive R (α:Type) where
 | ok (a:α) (h:HP)
 | exc (c:Nat) (h:HP)
 | err
noncomputable def R.bind {α β:Type}:R α→(α→HP→R β)→R β
 | .ok a h,f=>f a h
 | .exc c h,_=>.exc c h
 | .err,_=>.err
inductive Op where | add | sub | mul | fdiv | mod
inductive COp where | eq | ne | lt | le | gt | ge
inductive IK where | range1 | range3 | val | enum | rev | keys
inductive BM where | append | insert | popAt | index | clear | dpop
inductive BF where | len | list | listRange | sorted | int | min | max | max1 | all
inductive TY where | int | bool | list | tup | valueError | own (c:Nat)
set_option genCtorIdx false in
mutual
inductive CE where
 | none | bool (b:Bool) | int (i:Int)
 | pow (a n:Nat)
 | loc (k:Nat)
 | bin (op:Op) (a b:CE)
 | neg (a:CE) | not (a:CE)
 | and (a b:CE) | or (a b:CE)
 | cmp (op:COp) (a b:CE)
 | isC (neg:Bool) (a:CE) (c:Option Bool)
 | isin (neg:Bool) (a b:CE)
 | chain (a:CE) (o₁:COp) (b:CE) (o₂:COp) (c:CE)
 | attr (a:CE) (n:Nat)
 | item (a i:CE)
 | slice (a lo hi:CE) (st:Nat)
 | list (es:CEs) | tup (es:CEs) | dict0
 | call (f:Nat) (es:CEs)
 | meth (a:CE) (m:Nat) (es:CEs)
 | new (c:Nat) (es:CEs)
 | bm (m:BM) (a:CE) (es:CEs)
 | bf (f:BF) (es:CEs)
 | isinst (a:CE) (t:TY)
 | comp (elt:CE) (ik:IK) (es:CEs) (cond:CE)
inductive CEs where
 | nil | cons (e:CE) (es:CEs)
end
set_option genCtorIdx false in
mutual
inductive CS where
 | skip
 | seq (a b:CS)
 | asg (k:Nat) (e:CE)
 | asg2 (k₁ k₂:Nat) (e:CE)
 | setAttr (a:CE) (n:Nat) (e:CE)
 | setItem (a i e:CE)
 | ex (e:CE)
 | ite (t:CE) (a b:CS)
 | whil (t:CE) (b:CS)
 | for1 (k:Nat) (ik:IK) (es:CEs) (b:CS)
 | for2 (k₁ k₂:Nat) (e:CE) (b:CS)
 | ret (e:CE)
 | raise (c:Nat) (msg:Str)
 | tr (b:CS) (hs:CHs)
 | dead
inductive CHs where
 | nil | cons (c:Nat) (as_:Option Nat) (b:CS) (hs:CHs)
end
structure Fn where
 np:Nat
 ns:Nat
 code:CS
structure Gl where
 fns:Nat→Option Fn
 meth:Nat→Nat→Option Nat
 init:Nat→Option Nat
 sub:Nat→Nat→Bool
noncomputable abbrev CallO:=Nat→List AV→HP→R AV
noncomputable def uc (a b:Int):Bool:=decide (a.natAbs<2^64∨b.natAbs<2^64)
noncomputable def cb (n:Nat):Bool:=decide (n≤100000)
noncomputable def gi (b:Int):Bool:=decide (b≠0∧b.natAbs<2^200)
noncomputable def addL (i j:Nat) (h:HP):R AV:=match h[i]?,h[j]? with
 | some (.list xs),some (.list ys)=>if cb (xs.length+ys.length) then .ok (.ref h.length) (h++[.list (xs++ys)]) else .err
 | _,_=>.err
noncomputable def li (op:Op) (x y:AV) (h:HP):R AV:=match x,y with
 | .int a,.int b=>match op with
  | .add=>.ok (.int (a+b)) h
  | .sub=>.ok (.int (a - b)) h
  | .mul=>if uc a b then .ok (.int (a*b)) h else .err
  | .fdiv=>if gi b then .ok (.int (a.fdiv b)) h else .err
  | .mod=>if gi b then .ok (.int (a.fmod b)) h else .err
 | .ref i,.ref j=>match op with
  | .add=>addL i j h
  | _=>.err
 | _,_=>.err
noncomputable def b9:List (Option Bool)→Option Bool
 | []=>some true
 | some a::r=>(b9 r).map (a&&·)
 | Option.none::_=>Option.none
noncomputable def eqR (r:AV→AV→Option Bool):Option AO→Option AO→Option Bool
 | some (.list xs),some (.list ys)=>if xs.length=ys.length then b9 (List.zipWith r xs ys) else some false
 | some (.tup xs),some (.tup ys)=>if xs.length=ys.length then b9 (List.zipWith r xs ys) else Option.none
 | _,_=>Option.none
noncomputable def eqv:Nat→HP→AV→AV→Option Bool
 | 0,_,_,_=>Option.none
 | n+1,h,a,b=>match a,b with
  | .none,.none=>some true
  | .int i,.int j=>some (decide (i=j))
  | .bool x,.bool y=>some (decide (x=y))
  | .none,.int _=>some false
  | .int _,.none=>some false
  | .ref i,.ref j=>eqR (eqv n h) h[i]? h[j]?
  | _,_=>Option.none
noncomputable def O1 (op:COp) (a b:Int):Bool:=match op with
 | .eq=>decide (a=b) | .ne=>decide (a≠b) | .lt=>decide (a<b) | .le=>decide (a≤b) | .gt=>decide (b<a) | .ge=>decide (b≤a)
noncomputable def cj (op:COp) (a b:AV) (h:HP):R AV:=match op with
 | .eq=>match eqv 6 h a b with | some r=>.ok (.bool r) h | Option.none=>.err
 | .ne=>match eqv 6 h a b with | some r=>.ok (.bool (!r)) h | Option.none=>.err
 | op=>match a,b with
  | .int x,.int y=>.ok (.bool (O1 op x y)) h
  | _,_=>.err
noncomputable def f7:List AV→Option (List Int)
 | []=>some []
 | .int i::r=>(f7 r).map (i::·)
 | _=>Option.none
noncomputable def gc:List AV→Option (List Bool)
 | []=>some []
 | .bool i::r=>(gc r).map (i::·)
 | _=>Option.none
noncomputable def wc (i:Int):AO→Option Bool
 | .list vs=>(f7 vs).map fun ns=>decide (i∈ns)
 | .dict ks=>some (decide (i∈ks))
 | _=>Option.none
noncomputable def n6 (neg:Bool) (a b:AV) (h:HP):R AV:=match a,b with
 | .int i,.ref j=>((h[j]?).bind (wc i)).elim .err fun r=>.ok (.bool (neg ^^ r)) h
 | _,_=>.err
noncomputable def Mu (neg:Bool) (a:AV) (c:Option Bool) (h:HP):R AV:=match a,c with
 | .none,Option.none=>.ok (.bool (neg ^^ true)) h
 | .bool b,some c=>.ok (.bool (neg ^^ decide (b=c))) h
 | .int _,Option.none | .ref _,Option.none | .bool _,Option.none=>.ok (.bool (neg ^^ false)) h
 | _,_=>.err
noncomputable def tp (n:Nat) (a:AV) (h:HP):R AV:=match a with
 | .ref i=>match h[i]? with
  | some (.inst _ d)=>match h[d]? with
   | some (.fields fs)=>match fs.lookup n with
    | some v=>.ok v h
    | Option.none=>.err
   | _=>.err
  | _=>.err
 | _=>.err
noncomputable def o0 (n:Nat) (v:AV):List (Nat×AV)→List (Nat×AV)
 | []=>[(n,v)]
 | p::r=>if p.1=n then (n,v)::r else p::o0 n v r
noncomputable def jr (n:Nat) (a v:AV) (h:HP):R Unit:=match a with
 | .ref i=>match h[i]? with
  | some (.inst _ d)=>match h[d]? with
   | some (.fields fs)=>if fs.length<100 then .ok () (h.set d (.fields (o0 n v fs))) else .err
   | _=>.err
  | _=>.err
 | _=>.err
noncomputable def place (i:Int) (len:Nat):Option Nat :=
 let j:=if i<0 then i+len else i
 if 0≤j∧j<len then some j.toNat else Option.none
noncomputable def Aa:AO→Option (List AV)
 | .list vs=>some vs
 | .tup vs=>some vs
 | .const vs=>some vs
 | _=>Option.none
noncomputable def mw (k:Int) (vs:List AV):Option AV:=(place k vs.length).bind (vs[·]?)
noncomputable def dh (a i:AV) (h:HP):R AV:=match a,i with
 | .ref r,.int k=>(((h[r]?).bind Aa).bind (mw k)).elim .err fun v=>.ok v h
 | _,_=>.err
noncomputable def ma (k:Int) (ks:List Int):List Int:=if k∈ks then ks else ks++[k]
noncomputable def Hf (r:Nat) (k:Int) (v:AV) (h:HP):AO→R Unit
 | .list vs=>(place k vs.length).elim .err fun j=>if 0≤k then .ok () (h.set r (.list (vs.set j v))) else .err
 | .dict ks=>if v=.bool true∧cb ks.length then .ok () (h.set r (.dict (ma k ks))) else .err
 | _=>.err
noncomputable def iy (a i v:AV) (h:HP):R Unit:=match a,i with
 | .ref r,.int k=>(h[r]?).elim .err (Hf r k v h)
 | _,_=>.err
noncomputable def bz (lo hi:Option Int) (st:Nat) (len:Nat):List Nat :=
 PySem.sliceRange (PySem.sliceBounds lo hi (if st=0 then Option.none else some (st:Int)) len).1 (PySem.sliceBounds lo hi (if st=0 then Option.none else some (st:Int)) len).2.1 (PySem.sliceBounds lo hi (if st=0 then Option.none else some (st:Int)) len).2.2
noncomputable def gv:AV→Option (Option Int)
 | .none=>some Option.none
 | .int i=>some (some i)
 | _=>Option.none
noncomputable def ly (vs:List AV) (lo hi:AV) (st:Nat):Option (List AV):=match gv lo,gv hi with
 | some a,some b=>some ((bz a b st vs.length).filterMap (vs[·]?))
 | _,_=>Option.none
noncomputable def io (a lo hi:AV) (st:Nat) (h:HP):R AV:=match a with
 | .ref r=>match h[r]? with
  | some (.list vs) | some (.const vs)=>match ly vs lo hi st with
   | some ws=>if cb ws.length then .ok (.ref h.length) (h++[.list ws]) else .err
   | Option.none=>.err
  | _=>.err
 | _=>.err
noncomputable def truthy:AV→Option Bool
 | .bool b=>some b
 | _=>Option.none
noncomputable def u6 (n:Int):List Int→List Int
 | []=>[n]
 | x::r=>if n≤x then n::x::r else x::u6 n r
noncomputable def jf:List Int→List Int
 | []=>[]
 | x::r=>u6 x (jf r)
theorem si (n:Int):∀ l:List Int,(u6 n l).Perm (n::l)
 | []=>.refl _
 | x::r=>by
  unfold u6
  split
  ·exact .refl _
  ·exact((si n r).cons x).trans (.swap n x r)
set_option tactic.hygienic true in
theorem un (n:Int):∀ {l:List Int},l.Pairwise (·≤·)→(u6 n l).Pairwise (·≤·)
 | [],_=>by simp [u6]
 | x::r,h=>by
  unfold u6
  obtain⟨h1,h2⟩:=List.pairwise_cons.mp h
  split
  ·rename_i q
   refine .cons (fun y hy=>?_) h
   rcases Oz.g6.mp hy with rfl | hy
   ·exact q
   ·exact Int.le_trans q (h1 y hy)
  ·rename_i q
   refine .cons (fun y hy=>?_) (un n h2)
   rcases Oz.g6.mp ((si n r).mem_iff.mp hy) with rfl | hy
   ·omega
   ·exact h1 y hy
theorem qj:∀ l:List Int,(jf l).Perm l
 | []=>.refl _
 | x::r=>(si x _).trans ((qj r).cons x)
theorem rj:∀ l:List Int,(jf l).Pairwise (·≤·)
 | []=>.nil
 | x::r=>un x (rj r)
theorem ut {a b:List Int}(p:a.Perm b) (h:a.Pairwise (·≤·)):a=jf b:=List.Perm.eq_of_pairwise (fun ζ ζ ζ ζ x y=>Int.le_antisymm x y) h (rj b) (p.trans (qj b).symm)
theorem rm (l:List Int):(jf l).length=l.length:=(qj l).length_eq
noncomputable def wv:List AV→Option AV | [v]=>some v | _=>Option.none
noncomputable def C4:List AV→Option (AV×AV) | [v,w]=>some (v,w) | _=>Option.none
noncomputable def Hh:AV→Option Nat | .ref i=>some i | _=>Option.none
noncomputable def xp:AV→Option Int | .int i=>some i | _=>Option.none
noncomputable def Jc:AV→Option Bool | .bool i=>some i | _=>Option.none
noncomputable def iv:AO→Option (List AV) | .list vs=>some vs | _=>Option.none
noncomputable def uh:AO→Option (List Int) | .dict ks=>some ks | _=>Option.none
noncomputable def Ab (args:List AV):Option Nat:=(wv args).bind Hh
noncomputable def u4 (args:List AV):Option Int:=(wv args).bind xp
noncomputable def Na (args:List AV):Option (Int×Int):=(C4 args).bind fun p=>(xp p.1).bind fun x=>(xp p.2).map fun y=>(x,y)
noncomputable def Dm:AO→Option Nat
 | .list vs=>some vs.length
 | .tup _=>Option.none
 | .dict ks=>some ks.length
 | .const vs=>some vs.length
 | _=>Option.none
noncomputable def Dp:AO→Option (List AV)
 | .list vs=>some vs
 | .dict ks=>some (ks.map .int)
 | _=>Option.none
noncomputable def zh:AO→Option (List Int)
 | .list vs=>(f7 vs).bind fun ns=>if ns.length<64 then some (jf ns) else Option.none
 | .dict ks=>if ks.length<64 then some (jf ks) else Option.none
 | _=>Option.none
noncomputable def fw (f:BF) (args:List AV) (h:HP):R AV:=match f with
 | .len=>(Ab args).elim .err fun i=>((h[i]?).bind Dm).elim .err fun n=>.ok (.int n) h
 | .list=>(Ab args).elim .err fun i=>((h[i]?).bind Dp).elim .err fun vs=>.ok (.ref h.length) (h++[.list vs])
 | .listRange=>.err
 | .sorted=>(Ab args).elim .err fun i=>((h[i]?).bind zh).elim .err fun ns=>.ok (.ref h.length) (h++[.list (ns.map .int)])
 | .int=>((wv args).bind Jc).elim .err fun b=>.ok (.int (if b then 1 else 0)) h
 | .min=>(Na args).elim .err fun p=>.ok (.int (if p.2<p.1 then p.2 else p.1)) h
 | .max=>.err
 | .max1=>.err
 | .all=>(Ab args).elim .err fun i=>match h[i]? with
  | some (.list vs)=>(match gc vs with
   | some bs=>.ok (.bool (bs.all id)) h
   | Option.none=>.err)
  | _=>.err
noncomputable def tg (m:BM) (a:AV) (args:List AV) (h:HP):R AV:=(Hh a).elim .err fun i=>match m with
 | .append=>((h[i]?).bind iv).elim .err fun vs=>(wv args).elim .err fun v=>if cb vs.length then .ok .none (h.set i (.list (vs++[v]))) else .err
 | .insert=>((h[i]?).bind iv).elim .err fun vs=>(C4 args).elim .err fun p=>(xp p.1).elim .err fun k=>if (0≤k∧k≤vs.length)∧cb vs.length then .ok .none (h.set i (.list (vs.take k.toNat++p.2::vs.drop k.toNat))) else .err
 | .popAt=>((h[i]?).bind iv).elim .err fun vs=>(u4 args).elim .err fun k=>if 0≤k∧k<vs.length then (match vs[k.toNat]? with
   | some v=>.ok v (h.set i (.list (vs.eraseIdx k.toNat)))
   | Option.none=>.err) else .err
 | .index=>((h[i]?).bind iv).elim .err fun vs=>(u4 args).elim .err fun n=>match f7 vs with
   | some ns=>if n∈ns then .ok (.int (ns.idxOf n:Nat)) h else .err
   | Option.none=>.err
 | .clear=>.err
 | .dpop=>((h[i]?).bind uh).elim .err fun ks=>(u4 args).elim .err fun k=>if k∈ks then .ok (.bool true) (h.set i (.dict (ks.filter fun x=>decide (x≠k)))) else .err
noncomputable def sg (sub:Nat→Nat→Bool) (h:HP) (t:TY) (o:AO):R AV:=match o,t with
 | .list _,.list=>.ok (.bool true) h
 | .tup _,.tup=>.ok (.bool true) h
 | .exc _,.valueError=>.ok (.bool true) h
 | .exc c,.own d=>.ok (.bool (sub c d)) h
 | _,_=>.err
noncomputable def ja (sub:Nat→Nat→Bool) (t:TY) (a:AV) (h:HP):R AV:=match a,t with
 | .bool _,.bool=>.ok (.bool true) h
 | .int _,.int=>.ok (.bool true) h
 | .int _,.bool=>.ok (.bool false) h
 | .ref i,t=>(h[i]?).elim .err (sg sub h t)
 | _,_=>.err
noncomputable def dz (m:BM) (a:AV) (h:HP):Bool:=match a with
 | .ref i=>match m,h[i]? with
  | .dpop,some (.dict _)=>true
  | .dpop,_=>false
  | _,some (.list _)=>true
  | _,_=>false
 | _=>false
noncomputable abbrev Grd:=Option (Nat×AO)
noncomputable def okG:Grd→HP→Bool
 | Option.none,_=>true
 | some (i,o),h=>decide (h[i]?=some o)
noncomputable def bp (ik:IK) (args:List AV) (h:HP):Option (List AV×Grd):=match ik,args with
 | .range1,[.int n]=>if n.natAbs<2^62 then some ((List.range n.toNat).map fun(k:Nat)=>.int (k:Int),Option.none) else Option.none
 | .range3,[.int a,.int b,.int c]=>if a.natAbs<2^60∧b.natAbs<2^60∧0<c∧c.natAbs<2^60 then some ((List.range (if a<b then (b - a - 1) / c+1 else 0).toNat).map fun(k:Nat)=>.int (a+(k:Int)*c),Option.none) else Option.none
 | .val,[.ref i]=>match h[i]? with
  | some (.list vs)=>some (vs,some (i,.list vs))
  | some (.tup vs)=>some (vs,some (i,.tup vs))
  | _=>Option.none
 | .keys,[.ref i]=>((h[i]?).bind uh).map fun ks=>(ks.map .int,some (i,.dict ks))
 | .enum,[.ref i]=>match h[i]? with
  | some (.list vs)=>some (vs,some (i,.list vs))
  | _=>Option.none
 | .rev,[.ref i]=>match h[i]? with
  | some (.list vs)=>some (vs.reverse,some (i,.list vs))
  | _=>Option.none
 | _,_=>Option.none
noncomputable def R.noexc {α:Type}:R α→R α
 | .ok a h=>.ok a h
 | _=>.err
noncomputable def da (g:Grd) (cond elt:AV→HP→R AV):List AV→HP→R (List AV)
 | [],h=>if okG g h then .ok [] h else .err
 | v::r,h=>if okG g h then (cond v h).noexc.bind fun c h₁=>match truthy c with
   | some true=>(elt v h₁).noexc.bind fun x h₂=>(da g cond elt r h₂).bind fun xs h₃=>.ok (x::xs) h₃
   | some false=>da g cond elt r h₁
   | Option.none=>.err
  else .err
theorem Gm {g:Grd}{cond elt:AV→HP→R AV}{h:HP}:da g cond elt [] h=if okG g h then .ok [] h else .err:=rfl
theorem Dx {g:Grd}{cond elt:AV→HP→R AV}{v:AV}{r:List AV}{h:HP}:da g cond elt (v::r) h=if okG g h then (cond v h).noexc.bind (fun c h₁=>match truthy c with
   | some true=>(elt v h₁).noexc.bind fun x h₂=>(da g cond elt r h₂).bind fun xs h₃=>.ok (x::xs) h₃
   | some false=>da g cond elt r h₁
   | Option.none=>.err)
  else .err:=rfl
section
variable (G:Gl) (cl:CallO)
mutual
noncomputable def ev:CE→LOC→HP→R AV
 | .none,_,h=>.ok .none h
 | .bool b,_,h=>.ok (.bool b) h
 | .int i,_,h=>.ok (.int i) h
 | .pow a n,_,h=>.ok (.int ((a:Int)^n)) h
 | .loc k,l,h=>match l[k]? with | some (some v)=>.ok v h | _=>.err
 | .bin op a b,l,h=>(ev a l h).bind fun x h₁=>(ev b l h₁).bind fun y h₂=>li op x y h₂
 | .neg a,l,h=>(ev a l h).bind fun x h₁=>match x with | .int i=>.ok (.int (-i)) h₁ | _=>.err
 | .not a,l,h=>(ev a l h).bind fun x h₁=>match truthy x with | some b=>.ok (.bool (!b)) h₁ | Option.none=>.err
 | .and a b,l,h=>(ev a l h).bind fun x h₁=>match truthy x with | some true=>ev b l h₁ | some false=>.ok x h₁ | Option.none=>.err
 | .or a b,l,h=>(ev a l h).bind fun x h₁=>match truthy x with | some false=>ev b l h₁ | some true=>.ok x h₁ | Option.none=>.err
 | .cmp op a b,l,h=>(ev a l h).bind fun x h₁=>(ev b l h₁).bind fun y h₂=>cj op x y h₂
 | .isC neg a c,l,h=>(ev a l h).bind fun x h₁=>Mu neg x c h₁
 | .isin neg a b,l,h=>(ev a l h).bind fun x h₁=>(ev b l h₁).bind fun y h₂=>n6 neg x y h₂
 | .chain a o₁ b o₂ c,l,h=>(ev a l h).bind fun x h₁=>(ev b l h₁).bind fun y h₂=>(cj o₁ x y h₂).bind fun r h₃=>match truthy r with
   | some true=>(ev c l h₃).bind fun z h₄=>cj o₂ y z h₄
   | some false=>.ok r h₃
   | Option.none=>.err
 | .attr a n,l,h=>(ev a l h).bind fun x h₁=>tp n x h₁
 | .item a i,l,h=>(ev a l h).bind fun x h₁=>(ev i l h₁).bind fun y h₂=>dh x y h₂
 | .slice a lo hi st,l,h=>(ev a l h).bind fun x h₁=>(ev lo l h₁).bind fun y h₂=>(ev hi l h₂).bind fun z h₃=>io x y z st h₃
 | .list es,l,h=>(evs es l h).bind fun vs h₁=>if cb vs.length then .ok (.ref h₁.length) (h₁++[.list vs]) else .err
 | .tup es,l,h=>(evs es l h).bind fun vs h₁=>if cb vs.length then .ok (.ref h₁.length) (h₁++[.tup vs]) else .err
 | .dict0,_,h=>.ok (.ref h.length) (h++[.dict []])
 | .call f es,l,h=>(evs es l h).bind fun vs h₁=>cl f vs h₁
 | .meth a m es,l,h=>(ev a l h).bind fun x h₁=>match x with
   | .ref i=>match h₁[i]? with
    | some (.inst c d)=>match G.meth c m,h₁[d]? with
     | some f,some (.fields _)=>(evs es l h₁).bind fun vs h₂=>cl f (.ref i::vs) h₂
     | _,_=>.err
    | _=>.err
   | _=>.err
 | .new c es,l,h=>match G.init c with
   | some f=>(evs es l h).bind fun vs h₁=>(cl f (.ref (h₁.length+1)::vs) (h₁++[.fields [],.inst c h₁.length])).bind fun r h₂=>match r with
    | .none=>.ok (.ref (h₁.length+1)) h₂
    | _=>.err
   | Option.none=>.err
 | .bm m a es,l,h=>(ev a l h).bind fun x h₁=>if dz m x h₁ then (evs es l h₁).bind fun vs h₂=>tg m x vs h₂ else .err
 | .bf f es,l,h=>(evs es l h).bind fun vs h₁=>fw f vs h₁
 | .isinst a t,l,h=>(ev a l h).bind fun x h₁=>ja G.sub t x h₁
 | .comp elt ik es cond,l,h=>(evs es l h).bind fun vs h₁=>match bp ik vs h₁ with
   | some (items,g)=>if cb items.length then (da g (fun v h'=>ev cond (l++[some v]) h') (fun v h'=>ev elt (l++[some v]) h') items h₁).bind fun xs h₂ =>
     .ok (.ref h₂.length) (h₂++[.list xs]) else .err
   | Option.none=>.err
noncomputable def evs:CEs→LOC→HP→R (List AV)
 | .nil,_,h=>.ok [] h
 | .cons e es,l,h=>(ev e l h).bind fun v h₁=>(evs es l h₁).bind fun vs h₂=>.ok (v::vs) h₂
end
end
set_option tactic.hygienic true in
inductive RS where
 | next (l:LOC) (h:HP)
 | ret (v:AV) (h:HP)
 | exc (c:Nat) (l:LOC) (h:HP)
 | err
noncomputable def R.thn {α:Type}(l:LOC):R α→(α→HP→RS)→RS
 | .ok a h,f=>f a h
 | .exc c h,_=>.exc c l h
 | .err,_=>.err
set_option tactic.hygienic true in
noncomputable def RS.thn:RS→(LOC→HP→RS)→RS
 | .next l h,f=>f l h
 | r,_=>r
noncomputable def RS.noexc:RS→RS
 | .exc _ _ _=>.err
 | r=>r
set_option tactic.hygienic true in
noncomputable def du (g:Grd) (step:AV→Nat→LOC→HP→RS):List AV→Nat→LOC→HP→RS
 | [],_,l,h=>if okG g h then .next l h else .err
 | v::r,k,l,h=>if okG g h then (step v k l h).thn fun l' h'=>du g step r (k+1) l' h' else .err
set_option tactic.hygienic true in
noncomputable def gq (test:LOC→HP→R AV) (body:LOC→HP→RS):Nat→LOC→HP→RS
 | 0,_,_=>.err
 | n+1,l,h=>(test l h).thn l fun b h₁=>match truthy b with
  | some true=>(body l h₁).thn fun l' h'=>gq test body n l' h'
  | some false=>.next l h₁
  | Option.none=>.err
set_option tactic.hygienic true in
theorem Ba {g:Grd}{step:AV→Nat→LOC→HP→RS}{k:Nat}{l:LOC}{h:HP}:du g step [] k l h=if okG g h then .next l h else .err:=rfl
theorem yt {g:Grd}{step:AV→Nat→LOC→HP→RS}{v:AV}{r:List AV}{k:Nat}{l:LOC}{h:HP}:du g step (v::r) k l h=if okG g h then (step v k l h).thn fun l' h'=>du g step r (k+1) l' h' else .err:=rfl
set_option tactic.hygienic true in
theorem Bv {test:LOC→HP→R AV}{body:LOC→HP→RS}{n:Nat}{l:LOC}{h:HP}:gq test body (n+1) l h=(test l h).thn l fun b h₁=>match truthy b with
  | some true=>(body l h₁).thn fun l' h'=>gq test body n l' h'
  | some false=>.next l h₁
  | Option.none=>.err:=rfl
section
variable (G:Gl) (cl:CallO) (W:Nat)
set_option tactic.hygienic true in
mutual
noncomputable def exec:CS→LOC→HP→RS
 | .skip,l,h=>.next l h
 | .seq a b,l,h=>(exec a l h).thn fun l' h'=>exec b l' h'
 | .asg k e,l,h=>(ev G cl e l h).thn l fun v h₁=>.next (l.set k (some v)) h₁
 | .asg2 k₁ k₂ e,l,h=>(ev G cl e l h).thn l fun v h₁=>match v with
   | .ref i=>match h₁[i]? with
    | some (.tup [x,y])=>.next ((l.set k₁ (some x)).set k₂ (some y)) h₁
    | _=>.err
   | _=>.err
 | .setAttr a n e,l,h=>(ev G cl e l h).thn l fun v h₁=>(ev G cl a l h₁).thn l fun x h₂=>(jr n x v h₂).thn l fun ζ h₃=>.next l h₃
 | .setItem a i e,l,h=>(ev G cl e l h).thn l fun v h₁=>(ev G cl a l h₁).thn l fun x h₂=>(ev G cl i l h₂).thn l fun y h₃=>(iy x y v h₃).thn l fun ζ h₄=>.next l h₄
 | .ex e,l,h=>(ev G cl e l h).thn l fun ζ h₁=>.next l h₁
 | .ite t a b,l,h=>(ev G cl t l h).thn l fun v h₁=>match truthy v with
   | some true=>exec a l h₁
   | some false=>exec b l h₁
   | Option.none=>.err
 | .whil t b,l,h=>gq (fun l' h'=>ev G cl t l' h') (fun l' h'=>exec b l' h') W l h
 | .for1 k ik es b,l,h=>(evs G cl es l h).thn l fun vs h₁=>match bp ik vs h₁ with
   | some (items,g)=>du g (fun v ζ l' h'=>exec b (l'.set k (some v)) h') items 0 l h₁
   | Option.none=>.err
 | .for2 k₁ k₂ e b,l,h=>(ev G cl e l h).thn l fun v h₁=>match bp .enum [v] h₁ with
   | some (items,g)=>du g (fun v n l' h'=>exec b ((l'.set k₁ (some (.int n))).set k₂ (some v)) h') items 0 l h₁
   | Option.none=>.err
 | .ret e,l,h=>(ev G cl e l h).thn l fun v h₁=>.ret v h₁
 | .raise c _,l,h=>.exc c l h
 | .tr b hs,l,h=>match exec b l h with
   | .exc c l' h'=>hand hs c l' h'
   | r=>r
 | .dead,_,_=>.err
noncomputable def hand:CHs→Nat→LOC→HP→RS
 | .nil,_,_,_=>.err
 | .cons d as_ b hs,c,l,h=>if G.sub c d then (match as_ with
   | Option.none=>(exec b l h).noexc
   | some k=>((exec b (l.set k (some (.ref h.length))) (h++[.exc c])).noexc).thn fun l' h'=>.next (l'.set k Option.none) h')
  else hand hs c l h
end
end
set_option tactic.hygienic true in
noncomputable def Fn.run (G:Gl) (cl:CallO) (W:Nat) (f:Fn) (args:List AV) (h:HP):R AV :=
 if args.length=f.np then match exec G cl W f.code (args.map some++List.replicate (f.ns - f.np) Option.none) h with
  | .next _ h'=>.ok .none h'
  | .ret v h'=>.ok v h'
  | .exc c _ h'=>.exc c h'
  | .err=>.err
 else .err
noncomputable def ae (G:Gl) (W:Nat):Nat→CallO
 | 0=>fun ζ ζ ζ=>.err
 | n+1=>fun f args h=>match G.fns f with
  | some fn=>fn.run G (ae G W n) W args h
  | Option.none=>.err
structure FnD where
 name:Option Str
 addr:Nat
 slots:List Str
 np:Nat
 code:CS
structure TxD where
 fns:List (Nat×FnD)
 cls:List (Str×Nat)
 attrs:List Str
 mths:List Str
 methT:List (Nat×Nat)
 init:Option Nat
 sub:Nat→Nat→Bool
 exc:Bool
noncomputable def TxD.gl (D:TxD):Gl:=⟨fun i=>(D.fns.lookup i).map fun d=>⟨d.np,d.slots.length,d.code⟩,fun c m=>if c=0 then D.methT.lookup m else Option.none,fun c=>if c=0 then D.init else Option.none,D.sub⟩
end Sk
namespace Sk
open PySem PySem.Calls PySem.W PyProof.Rows PySem.Spec
structure Tx where
 fnName:Nat→Option Str
 fnAddr:Nat→Option Addr
 clsName:Nat→Option Str
 clsAddr:Nat→Option Addr
 attr:Nat→Option Str
 mth:Nat→Option Str
 exc:Bool
noncomputable def VR (ρ:List Addr):AV→Value→Prop
 | .none,v=>v=Value.none
 | .bool b,v=>v=Value.bool b
 | .int i,v=>∃ t,v=Value.int i t
 | .str x,v=>∃ t,v=Value.str x t
 | .ref a,v=>∃ c,ρ[a]?=some c∧v=Value.ref c
inductive VRs (ρ:List Addr):List AV→List Value→Prop
 | nil:VRs ρ [] []
 | cons {a:AV}{v:Value}{as:List AV}{vs:List Value}:VR ρ a v→VRs ρ as vs→VRs ρ (a::as) (v::vs)
theorem getElem?_pre {α:Type}{a b:List α}{i:Nat}{x:α}(p:a<+:b) (h:a[i]?=some x):b[i]?=some x:=by
 obtain⟨t,rfl⟩:=p
 rw [Oz.g23 (Oz.g4.mp h).1]
 exact h
theorem VR.mono {ρ ρ' : List Addr}(p:ρ<+:ρ'){a:AV}{v:Value}(h:VR ρ a v):VR ρ' a v:=by
 cases a with
 | ref _=>obtain⟨c,h,e⟩:=h; exact⟨c,getElem?_pre p h,e⟩
 | _=>exact h
theorem VRs.mono {ρ ρ' : List Addr}(p:ρ<+:ρ'){as:List AV}{vs:List Value}(h:VRs ρ as vs):VRs ρ' as vs:=by
 induction h with
 | nil=>exact .nil
 | cons a _ ih=>exact .cons (a.mono p) ih
theorem VRs.length {ρ:List Addr}{as:List AV}{vs:List Value}(h:VRs ρ as vs):vs.length=as.length:=by
 induction h with
 | nil=>rfl
 | cons _ _ ih=>simp [ih]
theorem VRs.get {ρ:List Addr}{as:List AV}{vs:List Value}(h:VRs ρ as vs){i:Nat}{a:AV}(e:as[i]?=some a):∃ v,vs[i]?=some v∧VR ρ a v:=by
 induction h generalizing i with
 | nil=>simp at e
 | cons x _ ih =>
  cases i with
  | zero=>simp at e; subst e; exact⟨_,rfl,x⟩
  | succ i=>simp at e; obtain⟨v,h1,h2⟩:=ih e; exact⟨v,by simpa using h1,h2⟩
theorem VRs.append {ρ:List Addr}{as bs:List AV}{vs ws:List Value}(h:VRs ρ as vs) (k:VRs ρ bs ws):VRs ρ (as++bs) (vs++ws):=by
 induction h with
 | nil=>exact k
 | cons a _ ih=>exact .cons a ih
theorem VRs.take {ρ:List Addr}{as:List AV}{vs:List Value}(h:VRs ρ as vs) (n:Nat):VRs ρ (as.take n) (vs.take n):=by
 induction h generalizing n with
 | nil=>simp; exact .nil
 | cons a _ ih=>cases n with
  | zero=>exact .nil
  | succ n=>exact .cons a (ih n)
theorem VRs.drop {ρ:List Addr}{as:List AV}{vs:List Value}(h:VRs ρ as vs) (n:Nat):VRs ρ (as.drop n) (vs.drop n):=by
 induction h generalizing n with
 | nil=>simp; exact .nil
 | cons a h ih=>cases n with
  | zero=>exact .cons a h
  | succ n=>exact ih n
theorem VRs.set {ρ:List Addr}{as:List AV}{vs:List Value}(h:VRs ρ as vs) (n:Nat){a:AV}{v:Value}(x:VR ρ a v):VRs ρ (as.set n a) (vs.set n v):=by
 induction h generalizing n with
 | nil=>exact .nil
 | cons b h ih=>cases n with
  | zero=>exact .cons x h
  | succ n=>exact .cons b (ih n)
theorem VRs.ints {ρ:List Addr}{as:List AV}{vs:List Value}{ns:List Int}(h:VRs ρ as vs) (e:f7 as=some ns):IntsAre vs ns:=by
 induction h generalizing ns with
 | nil=>simp only [f7,Option.some.injEq] at e; subst e; exact .nil
 | @cons a v as vs ha _ ih =>
  cases a with
  | int i =>
   simp only [f7,Oz.g11] at e
   refine Oz.z fun ζ η=>?_
   obtain⟨ms,e1,rfl⟩:=e
   obtain⟨t,rfl⟩:=ha
   refine η ?_
   exact .cons _ _ (ih e1)
  | _=>simp [f7] at e
theorem VRs.of_ints {ρ:List Addr}{vs:List Value}{ns:List Int}(h:IntsAre vs ns):VRs ρ (ns.map .int) vs:=by
 induction h with
 | nil=>exact .nil
 | cons n t _ ih=>exact .cons ⟨_,rfl⟩ ih
structure Cx where
 prog:Program
 w:World
 base:Heap
 s₀:Shared
 K:Frag
 tx:Tx
 G:Gl
 mg:Str→Option Value
 mb:Str→Option Value
 scr:Option Obj
structure Fm where
 env:Env
 A:Around
 slots:List (Option Str)
 cells:List (Str×Addr)
 fr0:List (Addr×Obj)
 outer:List Env
noncomputable def cq (tx:Tx) (P:Params) (ρ:List Addr):List (Nat×AV)→List DictEntry→Prop
 | [],[]=>True
 | (n,v)::r,e::es=>(Oz.E2 fun x t=>tx.attr n=some x∧e.key=.str x t∧e.hash=PyData.keyHash P x∧VR ρ v e.val)∧cq tx P ρ r es
 | _,_=>False
theorem cq.mono {tx:Tx}{P:Params}{ρ ρ' : List Addr}(p:ρ<+:ρ'){fs:List (Nat×AV)}{es:List DictEntry}(h:cq tx P ρ fs es):cq tx P ρ' fs es:=by
 induction fs generalizing es with
 | nil=>cases es with
  | nil=>exact trivial
  | cons _ _=>exact h.elim
 | cons q fs ih=>cases es with
  | nil=>exact h.elim
  | cons e es =>
   refine Oz.z fun ζ η=>?_
   obtain⟨⟨x,t,a,b,c,d⟩,r⟩:=h
   refine η ?_
   exact⟨⟨x,t,a,b,c,d.mono p⟩,ih r⟩
noncomputable def kx (Γ:Cx) (ρ:List Addr):AO→Obj→Prop
 | .list vs,o=>Oz.E2 fun vs' n=>o=listOf vs'.toArray n∧VRs ρ vs vs'∧vs.length≤200000
 | .tup vs,o=>Oz.E2 fun vs' n=>o={ cls:=.type "tuple",data:=.seq vs'.toArray n }∧VRs ρ vs vs'∧vs.length≤200000
 | .fields fs,o=>Oz.E2 fun es n=>o=dictOf es n∧cq Γ.tx Γ.w.params ρ fs es
 | .inst c d,o=>Oz.E2 fun C dx=>(c=0∧Γ.tx.clsAddr c=some C)∧ρ[d]?=some dx∧o=instObj C dx
 | .dict ks,o=>o.IsDictOf (intKind Γ.prog Γ.w) (ks.map fun k=>(k,Value.bool true))∧ks.length≤200000
 | .exc c,o=>∃ C,(Γ.tx.exc=true∧c≠0)∧Γ.tx.clsAddr c=some C∧o.cls=.ref C∧notCls o=true∧o.dict=none
 | .const vs,o=>Oz.E2 fun vs' n=>o.cls=.type "list" ∧ o.data=.seq vs'.toArray n∧VRs ρ vs vs'∧vs.length≤200000∧Γ.scr=some o
theorem kx.mono {Γ:Cx}{ρ ρ' : List Addr}(p:ρ<+:ρ'){a:AO}{o:Obj}(h:kx Γ ρ a o):kx Γ ρ' a o:=by
 cases a with
 | list _=>obtain⟨vs,n,e,h,z⟩:=h; exact⟨vs,n,e,h.mono p,z⟩
 | tup _=>obtain⟨vs,n,e,h,z⟩:=h; exact⟨vs,n,e,h.mono p,z⟩
 | fields _=>obtain⟨es,n,e,h⟩:=h; exact⟨es,n,e,h.mono p⟩
 | inst _ _=>obtain⟨C,dx,a,b,c⟩:=h; exact⟨C,dx,a,getElem?_pre p b,c⟩
 | dict _=>exact h
 | exc _=>exact h
 | const _=>obtain⟨vs,n,a,b,h,z⟩:=h; exact⟨vs,n,a,b,h.mono p,z⟩
noncomputable def Fm.adr (f:Fm) (hid:List (Addr×Obj)) (ρ:List Addr):List Addr:=ρ++(f.cells.map (·.2)++(hid.map (·.1)++(f.fr0.map (·.1)++[f.env.locals])))
structure At (Γ:Cx) (f:Fm) (hid:List (Addr×Obj)) (ρ:List Addr) (l:LOC) (h:HP) (s:Shared):Prop where
 sh:s={ Γ.s₀ with heap:=s.heap,toks:=s.toks }
 frm:∃ m,Fr Γ.base f.env.locals s.heap m∧l.length=f.slots.length∧∀ (k:Nat) (x:Str) (v:AV),f.slots[k]?=some (some x)→l[k]?=some (some v) →
  ∃ v',VR ρ v v'∧((f.env.kindOf x=some .local∧m x=some v')∨(f.env.kindOf x≠some .local∧∃ c,f.cells.lookup x=some c∧s.heap.IsCell c (some v')))
 cel:∀ p∈f.cells,∃ v,s.heap.IsCell p.2 v
 len:ρ.length=h.length
 obj:∀ (i:Nat) (ao:AO) (c:Addr),h[i]?=some ao→ρ[i]?=some c→∃ o,s.heap.get? c=some o∧kx Γ ρ ao o
 nodup:(f.adr hid ρ).Nodup
 fresh:∀ c∈f.adr hid ρ,Γ.base.get? c=none
 hidden:∀ p∈hid,s.heap.get? p.1=some p.2
 below:∀ p∈f.fr0,∃ sl,s.heap.get? p.1=some { p.2 with slots:=sl }
section
variable {Γ:Cx}{f:Fm}{hid:List (Addr×Obj)}{ρ:List Addr}{l:LOC}{h:HP}{s:Shared}
theorem At.lt (x:At Γ f hid ρ l h s){i:Nat}{c:Addr}(e:ρ[i]?=some c):i<h.length:=by
 rw [← x.len]; exact(Oz.g4.mp e).1
theorem At.mem (x:At Γ f hid ρ l h s){i:Nat}{c:Addr}(e:ρ[i]?=some c):c∈f.adr hid ρ:=Oz.g18 _ (Oz.g16 e)
theorem At.keepBase (x:At Γ f hid ρ l h s):∀ b o,Γ.base.get? b=some o→s.heap.get? b=some o:=let ⟨_,F,_⟩:=x.frm; F.keep
theorem At.grow (x:At Γ f hid ρ l h s){s' : Shared}(hs:s'={ Γ.s₀ with heap:=s'.heap,toks:=s'.toks }) (k:∀ b o,s.heap.get? b=some o→s'.heap.get? b=some o):At Γ f hid ρ l h s' := by
 obtain⟨m,F,hl,hm⟩:=x.frm
 refine⟨hs,⟨m,⟨F.ns.keeps k,fun b o e=>k b o (F.keep b o e),F.above⟩,hl,fun i y v a b=>?_⟩,fun p hp=>?_,x.len,fun i ao c a b=>?_,x.nodup,x.fresh,fun p hp=>k _ _ (x.hidden p hp),fun p hp=>?_⟩
 ·obtain⟨v',h1,h2⟩:=hm i y v a b
  exact⟨v',h1,h2.imp id fun⟨h3,c,h4,h5⟩=>⟨h3,c,h4,h5.keeps k⟩⟩
 ·obtain⟨v,hv⟩:=x.cel p hp; exact⟨v,hv.keeps k⟩
 ·obtain⟨o,h1,h2⟩:=x.obj i ao c a b; exact⟨o,k _ _ h1,h2⟩
 ·obtain⟨sl,e⟩:=x.below p hp; exact⟨sl,k _ _ e⟩
theorem At.toks (x:At Γ f hid ρ l h s) (t:Nat):At Γ f hid ρ l h { s with toks:=t } :=
 x.grow (by have:=x.sh; rw [this]) fun ζ ζ e=>e
theorem At.all_lt (x:At Γ f hid ρ l h s):∀ c∈f.adr hid ρ,c<s.heap.objs.size:=by
 intro c hc
 unfold Fm.adr at hc
 simp only [Oz.g1] at hc
 rcases hc with hc | hc | hc | hc | hc
 ·refine Oz.z fun ζ η=>?_
  obtain⟨i,hi,rfl⟩:=List.mem_iff_getElem.mp hc
  have hi' : i<h.length:=by rw [← x.len]; exact hi
  obtain⟨o,h1,_⟩:=x.obj i h[i] ρ[i] (Oz.g10 hi') (Oz.g10 hi)
  refine η ?_
  exact Heap.lt_size h1
 ·refine Oz.z fun ζ1 η1=>?_
  obtain⟨p,hp,rfl⟩:=Oz.g8.mp hc
  obtain⟨v,o,e,_⟩:=x.cel p hp
  refine η1 ?_
  exact Heap.lt_size e
 ·obtain⟨p,hp,rfl⟩:=Oz.g8.mp hc
  exact Heap.lt_size (x.hidden p hp)
 ·refine Oz.z fun ζ2 η2=>?_
  obtain⟨p,hp,rfl⟩:=Oz.g8.mp hc
  obtain⟨sl,e⟩:=x.below p hp
  refine η2 ?_
  exact Heap.lt_size e
 ·obtain⟨m,F,_⟩:=x.frm
  rw [Oz.g9.mp hc]; exact F.ns.lt
theorem bk {β:Type}{x:Str}{c:β}:∀ {l:List (Str×β)},l.lookup x=some c→(x,c)∈l
 | [],e=>by cases e
 | (y,d)::r,e=>by
  rw [List.lookup_cons] at e
  by_cases q:(x == y)=true
  ·rw [q] at e; cases e; rw [eq_of_beq q]; exact .head _
  ·rw [Bool.eq_false_iff.mpr q] at e; exact .tail _ (bk e)
theorem At.alloc (x:At Γ f hid ρ l h s){s' : Shared}{c:Addr}{o:Obj}{ao:AO}(hs:s'={ Γ.s₀ with heap:=s'.heap,toks:=s'.toks }) (k:∀ b o,s.heap.get? b=some o→s'.heap.get? b=some o)
  (hc:s.heap.objs.size≤c) (ho:s'.heap.get? c=some o) (hr:kx Γ (ρ++[c]) ao o):At Γ f hid (ρ++[c]) l (h++[ao]) s' := by
 have y:=x.grow hs k
 have p:ρ<+:ρ++[c]:=Oz.g28 _ _
 obtain⟨m,F,hl,hm⟩:=y.frm
 have hnew:∀ d∈f.adr hid ρ,d≠c:=fun d hd e=>absurd (Oz.g27 (x.all_lt d hd) hc) (e ▸ Nat.lt_irrefl _)
 have hb:Γ.base.get? c=none:=by
  cases q:Γ.base.get? c with
  | none=>rfl
  | some o=>exact absurd (Oz.g27 (Heap.lt_size (x.keepBase _ _ q)) hc) (Nat.lt_irrefl _)
 refine⟨hs,⟨m,F,hl,fun i z v a b=>?_⟩,y.cel,by simp [x.len],fun i ao' d a b=>?_,?_,?_,y.hidden,y.below⟩
 ·obtain⟨v',h1,h2⟩:=hm i z v a b
  exact⟨v',h1.mono p,h2⟩
 ·by_cases hi:i<h.length
  ·rw [Oz.g23 hi] at a
   rw [Oz.g23 (by rw [x.len]; exact hi)] at b
   obtain⟨o',h1,h2⟩:=y.obj i ao' d a b
   exact⟨o',h1,h2.mono p⟩
  ·have hi' : i=h.length:=by
    have:=(Oz.g4.mp a).1
    simp at this; exact Oz.o539 hi this
   subst hi'
   have e1:ao'=ao:=by simpa using a.symm
   have e2:d=c:=by rw [← x.len] at b; simpa using b.symm
   subst e1; subst e2
   exact⟨o,ho,hr⟩
 ·unfold Fm.adr
  rw [Oz.g19]
  have hn:=x.nodup
  unfold Fm.adr at hn hnew
  rw [Oz.g17] at hn ⊢
  refine⟨hn.1,?_,fun a ha b hb'=>?_⟩
  ·rw [List.singleton_append,Oz.g20]
   exact⟨fun hm=>hnew _ (Oz.g24 _ hm) rfl,hn.2.1⟩
  ·rcases Oz.g1.mp hb' with e | e
   ·rw [Oz.g9.mp e]; exact hnew a (Oz.g18 _ ha)
   ·exact hn.2.2 a ha b e
 ·intro d hd
  unfold Fm.adr at hd
  rw [Oz.g19,Oz.g1] at hd
  rcases hd with hd | hd
  ·exact x.fresh d (Oz.g18 _ hd)
  ·rcases Oz.g1.mp hd with hd | hd
   ·rw [Oz.g9.mp hd]; exact hb
   ·exact x.fresh d (Oz.g24 _ hd)
theorem At.neLoc (x:At Γ f hid ρ l h s){i:Nat}{c:Addr}(e:ρ[i]?=some c):c≠f.env.locals:=by
 have hn:=x.nodup
 unfold Fm.adr at hn
 rw [Oz.g17] at hn
 exact hn.2.2 c (Oz.g16 e) _ (by simp)
theorem At.apart (x:At Γ f hid ρ l h s){i j:Nat}{c d:Addr}(e:ρ[i]?=some c) (e' : ρ[j]?=some d) (hij:i≠j):c≠d:=by
 have hn:=(Oz.g17.mp x.nodup).1
 refine Oz.z fun ζ η=>?_
 obtain⟨hi,rfl⟩:=Oz.g4.mp e
 obtain⟨hj,rfl⟩:=Oz.g4.mp e'
 refine η ?_
 intro q
 have:=Oz.g30.mp hn
 rcases Nat.lt_or_gt_of_ne hij with hlt | hlt
 ·exact this i j hi hj hlt q
 ·exact this j i hj hi hlt q.symm
theorem At.apartRest (x:At Γ f hid ρ l h s){i:Nat}{c d:Addr}(e:ρ[i]?=some c) (hd:d∈f.cells.map (·.2)++(hid.map (·.1)++(f.fr0.map (·.1)++[f.env.locals]))):d≠c:=by
 have hn:=x.nodup
 unfold Fm.adr at hn
 rw [Oz.g17] at hn
 exact fun q=>hn.2.2 c (Oz.g16 e) d hd q.symm
theorem At.put (x:At Γ f hid ρ l h s){s' : Shared}{i:Nat}{c:Addr}{o:Obj}{ao:AO}(hs:s'={ Γ.s₀ with heap:=s'.heap,toks:=s'.toks }) (hi:ρ[i]?=some c) (k:∀ b o,b≠c→s.heap.get? b=some o→s'.heap.get? b=some o)
  (ho:s'.heap.get? c=some o) (hr:kx Γ ρ ao o):At Γ f hid ρ l (h.set i ao) s' := by
 obtain⟨m,F,hl,hm⟩:=x.frm
 have hb:Γ.base.get? c=none:=x.fresh c (x.mem hi)
 have kb:∀ b o,Γ.base.get? b=some o→s'.heap.get? b=some o:=fun b o e=>k b o (fun q=>by rw [q,hb] at e; cases e) (F.keep b o e)
 have cellk:∀ p∈f.cells,∀ v,s.heap.IsCell p.2 v→s'.heap.IsCell p.2 v:=fun p hp v ⟨oc,e1,e2⟩=>⟨oc,k _ _ (x.apartRest hi (Oz.g18 _ (Oz.g15 hp))) e1,e2⟩
 refine⟨hs,⟨m,⟨?_,kb,F.above⟩,hl,fun j z v a b=>?_⟩,fun p hp=>?_,by simp [x.len],fun j ao' d a b=>?_,x.nodup,x.fresh,fun p hp=>k _ _ (x.apartRest hi (by simp only [Oz.g1]; exact .inr (.inl (Oz.g15 hp)))) (x.hidden p hp),fun p hp=>?_⟩
 ·refine Oz.z fun ζ η=>?_
  obtain⟨oL,es,ep,e1,e2⟩:=F.ns
  refine η ?_
  exact⟨oL,es,ep,k _ _ (x.neLoc hi).symm e1,e2⟩
 ·obtain⟨v',h1,h2⟩:=hm j z v a b
  exact⟨v',h1,h2.imp id fun⟨h3,d,h4,h5⟩=>⟨h3,d,h4,cellk _ (bk h4) _ h5⟩⟩
 ·obtain⟨v,hv⟩:=x.cel p hp; exact⟨v,cellk p hp v hv⟩
 ·by_cases q:j=i
  ·subst q
   have e1:d=c:=Option.some.inj (b.symm.trans hi)
   have hj:j<h.length:=x.lt hi
   have e2:ao'=ao:=by rw [List.getElem?_set_self hj] at a; exact(Option.some.inj a).symm
   subst e1; subst e2
   exact⟨o,ho,hr⟩
  ·rw [Oz.g21 (Ne.symm q)] at a
   obtain⟨o',h1,h2⟩:=x.obj j ao' d a b
   exact⟨o',k _ _ (x.apart b hi q) h1,h2⟩
 ·obtain⟨sl,e⟩:=x.below p hp
  exact⟨sl,k _ _ (x.apartRest hi (by simp only [Oz.g1]; exact .inr (.inr (.inl (Oz.g15 hp))))) e⟩
end
end Sk
namespace Sk
open PySem PySem.Calls PySem.W PyProof.Rows PySem.Spec
structure FmOk (f:Fm):Prop where
 kind:f.env.scope.kind=.function
 glob:f.env.globals=mainGlobals
 blt:f.env.builtins=builtinsNs
 nd:∀ (i j:Nat) (x:Str),f.slots[i]?=some (some x)→f.slots[j]?=some (some x)→i=j
 acc:∀ (k:Nat) (x:Str),f.slots[k]?=some (some x)→f.env.kindOf x=some .local∨(f.env.kindOf x=some .cell∧∃ c,f.cells.lookup x=some c∧f.env.cells.lookup x=some c)
 cel:∀ x,f.env.kindOf x=some .cell→∃ c,f.cells.lookup x=some c∧f.env.cells.lookup x=some c
 cnd:(f.cells.map (·.1)).Nodup
 frs:Oz.E2 fun env' outer=>f.A.frames=some (env'::outer)∧env'.frame=f.env.frame∧∀ env∈env'::outer,env.scope.kind≠.module∧∃ L,env.frame=some L∧L∈f.env.locals::f.fr0.map (·.1)
 fnf:∀ p∈f.fr0,∀ vs,p.2.data≠.fields vs
section
variable {Γ:Cx}{f:Fm}{hid:List (Addr×Obj)}{ρ:List Addr}{l:LOC}{h:HP}{s:Shared}{M:Model}{E:Value→Shared→Prop}
theorem At.read (x:At Γ f hid ρ l h s) (ok:FmOk f){k:Nat}{y:Str}{v:AV}{Q:Value→Shared→Prop}(hk:f.slots[k]?=some (some y)) (hv:l[k]?=some (some v))
  (hq:∀ v',VR ρ v v'→Q v' s):wpAny M f.A (loadName f.env y) Q E s:=by
 refine Oz.z fun ζ η=>?_
 obtain⟨m,F,hl,hm⟩:=x.frm
 obtain⟨v',h1,h2⟩:=hm k y v hk hv
 refine η ?_
 rcases h2 with ⟨h3,h4⟩ | ⟨h3,c,h4,h5⟩
 ·exact wpAny_loadName_local ok.kind h3 F.ns h4 (hq v' h1)
 ·rcases ok.acc k y hk with q | ⟨q,d,e1,e2⟩
  ·exact absurd q h3
  ·have:c=d:=Option.some.inj (h4.symm.trans e1)
   subst this
   exact wpAny_loadName_cell ok.kind q e2 h5 (hq v' h1)
theorem At.cellApart (x:At Γ f hid ρ l h s){p:Str×Addr}(hp:p∈f.cells){d:Addr}(hd:d∈ρ++(hid.map (·.1)++(f.fr0.map (·.1)++[f.env.locals]))):d≠p.2:=by
 have hn:=x.nodup
 unfold Fm.adr at hn
 rw [Oz.g17] at hn
 obtain⟨_,h2,h3⟩:=hn
 rw [Oz.g17] at h2
 rcases Oz.g1.mp hd with hd | hd
 ·exact h3 d hd p.2 (Oz.g18 _ (Oz.g15 hp))
 ·exact(h2.2.2 p.2 (Oz.g15 hp) d hd).symm
theorem At.cellInj (x:At Γ f hid ρ l h s){y z:Str}{c:Addr}(hy:(y,c)∈f.cells) (hz:(z,c)∈f.cells):y=z:=by
 have hn:=x.nodup
 unfold Fm.adr at hn
 rw [Oz.g17] at hn
 have h2:=(Oz.g17.mp hn.2.1).1
 refine Oz.z fun ζ η=>?_
 obtain⟨i,hi,e1⟩:=List.mem_iff_getElem.mp hy
 obtain⟨j,hj,e2⟩:=List.mem_iff_getElem.mp hz
 refine η ?_
 have:=Oz.g30.mp h2
 rcases Nat.lt_trichotomy i j with q | q | q
 ·exact absurd (by rw [List.getElem_map,List.getElem_map,e1,e2]) (this i j (by simpa using hi) (by simpa using hj) q)
 ·subst q; rw [e1] at e2; exact(Prod.mk.inj e2).1
 ·exact absurd (by rw [List.getElem_map,List.getElem_map,e1,e2]) (this j i (by simpa using hj) (by simpa using hi) q)
theorem At.store (x:At Γ f hid ρ l h s) (ok:FmOk f){k:Nat}{y:Str}{v:AV}{v' : Value}{Q:Unit→Shared→Prop}(hk:f.slots[k]?=some (some y)) (hv:VR ρ v v')
  (hq:∀ s',At Γ f hid ρ (l.set k (some v)) h s'→(∀ b∈ρ,s'.heap.get? b=s.heap.get? b)→Q () s'):wpAny M f.A (storeName f.env y v') Q E s:=by
 obtain⟨m,F,hl,hm⟩:=x.frm
 have hkl:k<l.length:=by rw [hl]; exact(Oz.g4.mp hk).1
 rcases ok.acc k y hk with q | ⟨q,c,e1,e2⟩
 ·refine wpAny_storeName_local q F.ns (fun h' hn hs=>?_) (by rw [ok.kind]; rfl)
  have hloc:∀ b,b∈f.adr hid ρ→b≠f.env.locals→h'.get? b=s.heap.get? b:=fun b ζ hb=>hs.2 b hb
  have rest:∀ d,d∈ρ++(f.cells.map (·.2)++(hid.map (·.1)++f.fr0.map (·.1)))→d≠f.env.locals:=by
   have hn:=x.nodup
   unfold Fm.adr at hn
   rw [show ρ++(f.cells.map (·.2)++(hid.map (·.1)++(f.fr0.map (·.1)++[f.env.locals])))=(ρ++(f.cells.map (·.2)++(hid.map (·.1)++f.fr0.map (·.1))))++[f.env.locals] by simp [Oz.g19]] at hn
   exact fun d hd=>(Oz.g17.mp hn).2.2 d hd _ (.head _)
  refine hq _ ⟨by rw [x.sh],⟨_,F.set hn hs,by simpa using hl,fun j z w a b=>?_⟩,fun p hp=>?_,x.len,fun i ao c a b=>?_,x.nodup,x.fresh,fun p hp=>?_,fun p hp=>?_⟩ fun b hb=>hs.2 b (rest b (Oz.g18 _ hb))
  ·by_cases hj:j=k
   ·subst hj
    have ez:z=y:=Option.some.inj (Option.some.inj (a.symm.trans hk))
    subst ez
    rw [List.getElem?_set_self hkl] at b
    have ew:w=v:=(Option.some.inj (Option.some.inj b)).symm
    subst ew
    exact⟨v',hv,.inl ⟨q,by simp⟩⟩
   ·rw [Oz.g21 (Ne.symm hj)] at b
    obtain⟨w',h1,h2⟩:=hm j z w a b
    refine⟨w',h1,h2.imp (fun⟨h3,h4⟩=>⟨h3,?_⟩) fun⟨h3,d,h4,od,h5,h6⟩=>⟨h3,d,h4,od,?_,h6⟩⟩
    ·have:z≠y:=fun e=>hj (ok.nd j k z a (e ▸ hk))
     simp [this,h4]
    ·exact(hs.2 d (rest d (by simp only [Oz.g1,Oz.g8]; exact .inr (.inl ⟨_,bk h4,rfl⟩)))).trans h5
  ·obtain⟨w,od,h5,h6⟩:=x.cel p hp
   exact⟨w,od,(hs.2 _ (rest _ (by simp only [Oz.g1]; exact .inr (.inl (Oz.g15 hp))))).trans h5,h6⟩
  ·obtain⟨o,h1,h2⟩:=x.obj i ao c a b
   exact⟨o,(hs.2 _ (x.neLoc b)).trans h1,h2⟩
  ·exact(hs.2 _ (rest _ (by simp only [Oz.g1]; exact .inr (.inr (.inl (Oz.g15 hp)))))).trans (x.hidden p hp)
  ·obtain⟨sl,e⟩:=x.below p hp
   exact⟨sl,(hs.2 _ (rest _ (by simp only [Oz.g1]; exact .inr (.inr (.inr (Oz.g15 hp)))))).trans e⟩
 ·have hcm:=bk e1
  obtain⟨v₀,hv₀⟩:=x.cel _ hcm
  have hnl:f.env.kindOf y≠some .local:=by rw [q]; decide
  refine wpAny_storeName_cell ok.kind q e2 hv₀ fun h' hn hs=>?_
  have ne:∀ d,d∈ρ++(hid.map (·.1)++(f.fr0.map (·.1)++[f.env.locals]))→d≠c:=fun d hd=>x.cellApart hcm hd
  have hb:Γ.base.get? c=none:=x.fresh c (by unfold Fm.adr; simp only [Oz.g1]; exact .inr (.inl (Oz.g8.mpr ⟨_,hcm,rfl⟩)))
  refine hq _ ⟨by rw [x.sh],⟨m,⟨F.ns.sameBut hs (ne _ (by simp)),fun b o e=>(hs.2 b (fun z=>by rw [z,hb] at e; cases e)).trans (F.keep b o e),F.above⟩,by simpa using hl,fun j z w a b=>?_⟩,fun p hp=>?_,x.len,fun i ao d a b=>?_,x.nodup,x.fresh,fun p hp=>?_,fun p hp=>?_⟩ fun b hb=>hs.2 b (ne b (Oz.g18 _ hb))
  ·by_cases hj:j=k
   ·subst hj
    have ez:z=y:=Option.some.inj (Option.some.inj (a.symm.trans hk))
    subst ez
    rw [List.getElem?_set_self hkl] at b
    have ew:w=v:=(Option.some.inj (Option.some.inj b)).symm
    subst ew
    exact⟨v',hv,.inr ⟨hnl,c,e1,hn⟩⟩
   ·rw [Oz.g21 (Ne.symm hj)] at b
    obtain⟨w',h1,h2⟩:=hm j z w a b
    refine⟨w',h1,h2.imp id fun⟨h3,d,h4,h5⟩=>⟨h3,d,h4,h5.sameBut hs fun e=>?_⟩⟩
    subst e
    exact hj (ok.nd j k z a (x.cellInj (bk h4) hcm ▸ hk))
  ·by_cases e:p.2=c
   ·rw [e]; exact⟨_,hn⟩
   ·obtain⟨w,h5⟩:=x.cel p hp
    exact⟨w,h5.sameBut hs e⟩
  ·obtain⟨o,h1,h2⟩:=x.obj i ao d a b
   exact⟨o,(hs.2 _ (ne _ (Oz.g18 _ (Oz.g16 b)))).trans h1,h2⟩
  ·exact(hs.2 _ (ne _ (by simp only [Oz.g1]; exact .inr (.inl (Oz.g15 hp))))).trans (x.hidden p hp)
  ·obtain⟨sl,e⟩:=x.below p hp
   exact⟨sl,(hs.2 _ (ne _ (by simp only [Oz.g1]; exact .inr (.inr (.inl (Oz.g15 hp)))))).trans e⟩
end
end Sk
namespace Sk
open PySem PySem.Calls PySem.W PyProof.Rows PySem.Spec
noncomputable def fv (hp:Heap) (adr:List Addr):List (Addr×Obj):=adr.filterMap fun c=>(hp.get? c).map fun o=>(c,o)
theorem ch {hp:Heap}{adr:List Addr}{c:Addr}{o:Obj}(hc:c∈adr) (e:hp.get? c=some o):(c,o)∈fv hp adr :=
 List.mem_filterMap.mpr ⟨c,hc,by rw [e]; rfl⟩
theorem ey {hp:Heap}{adr:List Addr}{p:Addr×Obj}(h:p∈fv hp adr):p.1∈adr∧hp.get? p.1=some p.2:=by
 refine Oz.z fun ζ η=>?_
 obtain⟨c,hc,e⟩:=List.mem_filterMap.mp h
 obtain⟨o,ho,rfl⟩:=Oz.g11.mp e
 refine η ?_
 exact⟨hc,ho⟩
noncomputable def Fm.adr' (f:Fm) (hid:List (Addr×Obj)) (ρ:List Addr):List Addr:=ρ++(f.cells.map (·.2)++(hid.map (·.1)++f.fr0.map (·.1)))
theorem Fm.adr_eq (f:Fm) (hid:List (Addr×Obj)) (ρ:List Addr):f.adr hid ρ=f.adr' hid ρ++[f.env.locals]:=by simp [Fm.adr,Fm.adr',Oz.g19]
section
variable {Γ:Cx}{f:Fm}{hid:List (Addr×Obj)}{ρ:List Addr}{l:LOC}{h:HP}{s:Shared}{M:Model}{E:Value→Shared→Prop}
theorem At.neL (x:At Γ f hid ρ l h s){c:Addr}(hc:c∈f.adr' hid ρ):c≠f.env.locals:=by
 have hn:=x.nodup
 rw [Fm.adr_eq,Oz.g17] at hn
 exact hn.2.2 c hc _ (.head _)
theorem At.led (x:At Γ f hid ρ l h s):∃ m,Fr Γ.base f.env.locals s.heap m∧News Γ.base f.env.locals s.heap (fv s.heap (f.adr' hid ρ)) ∧
  ∀ h' tk news,(∀ p∈fv s.heap (f.adr' hid ρ),p∈news)→Fr Γ.base f.env.locals h' m→News Γ.base f.env.locals h' news→At Γ f hid ρ l h { s with heap:=h',toks:=tk } := by
 obtain⟨m,F,hl,hm⟩:=x.frm
 refine⟨m,F,fun p hp=>?_,fun h' tk news hin F' N=>?_⟩
 ·obtain⟨h1,h2⟩:=ey hp
  exact⟨h2,x.neL h1,x.fresh _ (by rw [Fm.adr_eq]; exact Oz.g18 _ h1)⟩
 ·have k:∀ c∈f.adr' hid ρ,∀ o,s.heap.get? c=some o→h'.get? c=some o:=fun c hc o e=>(N _ (hin _ (ch hc e))).1
  refine⟨by rw [x.sh],⟨m,F',hl,fun i y v a b=>?_⟩,fun p hp=>?_,x.len,fun i ao c a b=>?_,x.nodup,x.fresh,fun p hp=>?_,fun p hp=>?_⟩
  ·obtain⟨v',h1,h2⟩:=hm i y v a b
   refine⟨v',h1,h2.imp id fun⟨h3,c,h4,o,h5,h6⟩=>⟨h3,c,h4,o,k c ?_ o h5,h6⟩⟩
   simp only [Fm.adr',Oz.g1,Oz.g8]
   exact .inr (.inl ⟨_,bk h4,rfl⟩)
  ·obtain⟨v,o,h5,h6⟩:=x.cel p hp
   refine⟨v,o,k _ ?_ o h5,h6⟩
   simp only [Fm.adr',Oz.g1]
   exact .inr (.inl (Oz.g15 hp))
  ·obtain⟨o,h1,h2⟩:=x.obj i ao c a b
   exact⟨o,k c (Oz.g18 _ (Oz.g16 b)) o h1,h2⟩
  ·refine k _ ?_ _ (x.hidden p hp)
   simp only [Fm.adr',Oz.g1]
   exact .inr (.inr (.inl (Oz.g15 hp)))
  ·obtain⟨sl,e⟩:=x.below p hp
   refine⟨sl,k _ ?_ _ e⟩
   simp only [Fm.adr',Oz.g1]
   exact .inr (.inr (.inr (Oz.g15 hp)))
theorem At.allocN (x:At Γ f hid ρ l h s){m:Str→Option Value}{h' : Heap}{tk:Nat}{c:Addr}{o:Obj}{ao:AO}
  (back:∀ h' tk news,(∀ p∈fv s.heap (f.adr' hid ρ),p∈news)→Fr Γ.base f.env.locals h' m→News Γ.base f.env.locals h' news→At Γ f hid ρ l h { s with heap:=h',toks:=tk })
  (F' : Fr Γ.base f.env.locals h' m) (N' : News Γ.base f.env.locals h' ((c,o)::fv s.heap (f.adr' hid ρ))) (hc:s.heap.objs.size≤c) (hr:kx Γ (ρ++[c]) ao o) :
  At Γ f hid (ρ++[c]) l (h++[ao]) { s with heap:=h',toks:=tk } := by
 have y:=back h' tk _ (fun p hp=>List.mem_cons_of_mem _ hp) F' N'
 have p:ρ<+:ρ++[c]:=Oz.g28 _ _
 obtain⟨m,F,hl,hm⟩:=y.frm
 have hnew:∀ d∈f.adr hid ρ,d≠c:=fun d hd e=>absurd (Oz.g27 (x.all_lt d hd) hc) (e ▸ Nat.lt_irrefl _)
 have hb:Γ.base.get? c=none:=(N' _ (.head _)).2.2
 have ho:h'.get? c=some o:=(N' _ (.head _)).1
 refine⟨y.sh,⟨m,F,hl,fun i z v a b=>?_⟩,y.cel,by simp [x.len],fun i ao' d a b=>?_,?_,?_,y.hidden,y.below⟩
 ·obtain⟨v',h1,h2⟩:=hm i z v a b
  exact⟨v',h1.mono p,h2⟩
 ·by_cases hi:i<h.length
  ·rw [Oz.g23 hi] at a
   rw [Oz.g23 (by rw [x.len]; exact hi)] at b
   obtain⟨o',h1,h2⟩:=y.obj i ao' d a b
   exact⟨o',h1,h2.mono p⟩
  ·have hi' : i=h.length:=by
    have:=(Oz.g4.mp a).1
    simp at this; exact Oz.o539 hi this
   subst hi'
   have e1:ao'=ao:=by simpa using a.symm
   have e2:d=c:=by rw [← x.len] at b; simpa using b.symm
   subst e1; subst e2
   exact⟨o,ho,hr⟩
 ·unfold Fm.adr
  rw [Oz.g19]
  have hn:=x.nodup
  unfold Fm.adr at hn hnew
  rw [Oz.g17] at hn ⊢
  refine⟨hn.1,?_,fun a ha b hb'=>?_⟩
  ·rw [List.singleton_append,Oz.g20]
   exact⟨fun hm=>hnew _ (Oz.g24 _ hm) rfl,hn.2.1⟩
  ·rcases Oz.g1.mp hb' with e | e
   ·rw [Oz.g9.mp e]; exact hnew a (Oz.g18 _ ha)
   ·exact hn.2.2 a ha b e
 ·intro d hd
  unfold Fm.adr at hd
  rw [Oz.g19,Oz.g1] at hd
  rcases hd with hd | hd
  ·exact x.fresh d (Oz.g18 _ hd)
  ·rcases Oz.g1.mp hd with hd | hd
   ·rw [Oz.g9.mp hd]; exact hb
   ·exact x.fresh d (Oz.g24 _ hd)
end
noncomputable def aw {α:Type}(r:R α) (ok:α→HP→Prop) (ex:Nat→HP→Prop):Prop:=match r with
 | .ok a h=>ok a h
 | .exc c h=>ex c h
 | .err=>False
theorem bl {α β:Type}{o:Option α}{f:α→R β}{ok:β→HP→Prop}{ex:Nat→HP→Prop}(p:aw (o.elim .err f) ok ex):∃ a,o=some a∧aw (f a) ok ex:=by
 cases o with
 | none=>exact p.elim
 | some a=>exact⟨a,rfl,p⟩
theorem Bt {α:Type}{c:Prop} [Decidable c] {r:R α}{ok:α→HP→Prop}{ex:Nat→HP→Prop}(p:aw (if c then r else .err) ok ex):c∧aw r ok ex:=by
 by_cases q:c
 ·rw [if_pos q] at p; exact⟨q,p⟩
 ·rw [if_neg q] at p; exact p.elim
theorem Cq {α:Type}{c:Prop} [Decidable c] {a b:α}(h:(if c then some a else Option.none)=some b):c∧a=b:=by
 by_cases q:c
 ·rw [if_pos q] at h; exact⟨q,Option.some.inj h⟩
 ·rw [if_neg q] at h; cases h
theorem bq {α β:Type}{r:R α}{k:α→HP→R β}{ok:β→HP→Prop}{ex:Nat→HP→Prop}:aw (r.bind k) ok ex↔aw r (fun a h=>aw (k a h) ok ex) ex:=by cases r <;> exact Iff.rfl
theorem aw.mono {α:Type}{r:R α}{ok ok' : α→HP→Prop}{ex ex' : Nat→HP→Prop}(p:aw r ok ex) (h1:∀ a h,ok a h→ok' a h) (h2:∀ c h,ex c h→ex' c h):aw r ok' ex' := by
 cases r with
 | ok a h=>exact h1 a h p
 | exc c h=>exact h2 c h p
 | err=>exact p
noncomputable abbrev Rise:=Fm→List (Addr×Obj)→List Addr→LOC→HP→Nat→Value→Shared→Prop
noncomputable def OKQ (Γ:Cx) (f:Fm) (hid:List (Addr×Obj)) (ρ:List Addr) (l:LOC) (Q:Value→Shared→Prop):AV→HP→Prop :=
 fun v h'=>∀ v' ρ' s',ρ<+:ρ'→At Γ f hid ρ' l h' s'→VR ρ' v v'→Q v' s'
noncomputable def OKB (Γ:Cx) (f:Fm) (hid:List (Addr×Obj)) (ρ:List Addr) (l:LOC) (Q:Bool→Shared→Prop):AV→HP→Prop :=
 fun v h'=>∃ b,truthy v=some b∧∀ ρ' s',ρ<+:ρ'→At Γ f hid ρ' l h' s'→Q b s'
noncomputable def OKL (Γ:Cx) (f:Fm) (hid:List (Addr×Obj)) (ρ:List Addr) (l:LOC) (Q:List Value→Shared→Prop):List AV→HP→Prop :=
 fun vs h'=>∀ vs' ρ' s',ρ<+:ρ'→At Γ f hid ρ' l h' s'→VRs ρ' vs vs'→Q vs' s'
noncomputable def EXQ (Rz:Rise) (f:Fm) (hid:List (Addr×Obj)) (ρ:List Addr) (l:LOC) (E:Value→Shared→Prop):Nat→HP→Prop :=
 fun c h'=>∀ e ρ' s',ρ<+:ρ'→Rz f hid ρ' l h' c e s'→E e s'
theorem EXQ.ext {Rz:Rise}{f:Fm}{hid:List (Addr×Obj)}{ρ ρ' : List Addr}{l:LOC}{E:Value→Shared→Prop}{c:Nat}{h:HP}(p:ρ<+:ρ') (x:EXQ Rz f hid ρ l E c h):EXQ Rz f hid ρ' l E c h :=
 fun e ρ'' s' q r=>x e ρ'' s' (p.trans q) r
theorem OKQ.ext {Γ:Cx}{f:Fm}{hid:List (Addr×Obj)}{ρ ρ' : List Addr}{l:LOC}{Q:Value→Shared→Prop}{v:AV}{h:HP}(p:ρ<+:ρ') (x:OKQ Γ f hid ρ l Q v h):OKQ Γ f hid ρ' l Q v h :=
 fun v' ρ'' s' q r t=>x v' ρ'' s' (p.trans q) r t
noncomputable def Hj:Op→Operator
 | .add=>.Add | .sub=>.Sub | .mul=>.Mult | .fdiv=>.FloorDiv | .mod=>.Mod
noncomputable def oq:COp→CmpOp
 | .eq=>.Eq | .ne=>.NotEq | .lt=>.Lt | .le=>.LtE | .gt=>.Gt | .ge=>.GtE
theorem ci {Γ:Cx}{ρ:List Addr}{vs:List AV}{o:Obj}{hp:Heap}{c:Addr}(e:hp.get? c=some o) (r:kx Γ ρ (.list vs) o):∃ vs',hp.IsList c vs'.toArray∧VRs ρ vs vs' := by
 refine Oz.z fun ζ η=>?_
 obtain⟨vs',n,rfl,h,_⟩:=r
 refine η ?_
 exact⟨vs',⟨_,e,rfl,n,rfl⟩,h⟩
theorem n7 {Γ:Cx}{ρ:List Addr}{vs:List AV}{o:Obj}{hp:Heap}{c:Addr}(e:hp.get? c=some o) (r:kx Γ ρ (.tup vs) o):∃ vs',hp.IsTuple c vs'.toArray∧IsTup hp c vs'.toArray∧VRs ρ vs vs' := by
 refine Oz.z fun ζ η=>?_
 obtain⟨vs',n,rfl,h,_⟩:=r
 refine η ?_
 exact⟨vs',⟨_,e,rfl,n,rfl⟩,⟨_,e,rfl,n,rfl⟩,h⟩
section
variable {Γ:Cx}{f:Fm}{hid:List (Addr×Obj)}{ρ:List Addr}{l:LOC}{h:HP}{s:Shared}{E:Value→Shared→Prop}{Q:Value→Shared→Prop}{ex:Nat→HP→Prop}
set_option tactic.hygienic true in
theorem uk {a:Int}(h:a.natAbs<2^64):Builtin.Int.intBits a≤64:=by
 unfold Builtin.Int.intBits
 split
 ·exact Nat.zero_le _
 ·rename_i q
  have h0:a.natAbs≠0:=by simpa using q
  exact(Nat.log2_lt h0).mpr h
theorem Ak {a b:Int}(h:b.natAbs<2^200):Builtin.divisionGoesByPylong a b=false:=by
 refine PyProof.noPylong_of_log2 ?_
 by_cases h0:b.natAbs=0
 ·rw [h0]; decide +kernel
 ·have:=(Nat.log2_lt h0).mpr h
  exact Oz.o611 this
theorem Jj {n:Nat}(h:cb n=true):n≤sizeLine:=by
 have:n≤100000:=of_decide_eq_true h
 exact Oz.g2 this (by decide)
set_option tactic.hygienic true in
theorem Jr {op:Op}{x y:AV}{x' y' : Value}(t:At Γ f hid ρ l h s) (vx:VR ρ x x') (vy:VR ρ y y')
  (p:aw (li op x y h) (OKQ Γ f hid ρ l Q) ex):wpAny (model Γ.prog Γ.w) f.A (binaryOp (Hj op) x' y') Q E s:=by
 cases x with
 | int a =>
  cases y with
  | int b =>
   refine Oz.z fun ζ η=>?_
   obtain⟨t1,rfl⟩:=vx
   obtain⟨t2,rfl⟩:=vy
   refine η ?_
   cases op with
   | add=>exact add_int (p _ _ _ (Oz.g7 _) (t.toks _) ⟨_,rfl⟩)
   | sub=>exact sub_int' (p _ _ _ (Oz.g7 _) (t.toks _) ⟨_,rfl⟩)
   | mul =>
    have p:aw (if uc a b then R.ok (AV.int (a*b)) h else .err) (OKQ Γ f hid ρ l Q) ex:=p
    by_cases hm:uc a b=true
    ·rw [if_pos hm] at p
     refine PyProof.Rows.mul_int (p _ _ _ (Oz.g7 _) (t.toks _) ⟨_,rfl⟩) ?_
     simp only [uc,decide_eq_true_eq] at hm
     exact hm.elim (fun h=>.of_left (uk h)) fun h=>.of_right (uk h)
    ·rw [if_neg hm] at p; exact p.elim
   | fdiv =>
    have p:aw (if gi b then R.ok (AV.int (a.fdiv b)) h else .err) (OKQ Γ f hid ρ l Q) ex:=p
    by_cases hm:gi b=true
    ·rw [if_pos hm] at p
     have hm:=of_decide_eq_true hm
     exact floordiv_int hm.1 (p _ _ _ (Oz.g7 _) (t.toks _) ⟨_,rfl⟩) (.inl (Ak hm.2))
    ·rw [if_neg hm] at p; exact p.elim
   | mod =>
    have p:aw (if gi b then R.ok (AV.int (a.fmod b)) h else .err) (OKQ Γ f hid ρ l Q) ex:=p
    by_cases hm:gi b=true
    ·rw [if_pos hm] at p
     have hm:=of_decide_eq_true hm
     exact mod_int' hm.1 (p _ _ _ (Oz.g7 _) (t.toks _) ⟨_,rfl⟩)
    ·rw [if_neg hm] at p; exact p.elim
  | _=>exact p.elim
 | ref i =>
  cases y with
  | ref j =>
   cases op with
   | add =>
    simp only [li,addL] at p
    split at p
    ·rename_i xs ys e1 e2
     split at p
     ·rename_i hz
      refine Oz.z fun ζ1 η1=>?_
      obtain⟨c,hc,rfl⟩:=vx
      obtain⟨d,hd,rfl⟩:=vy
      obtain⟨o1,g1,r1⟩:=t.obj i _ c e1 hc
      obtain⟨o2,g2,r2⟩:=t.obj j _ d e2 hd
      obtain⟨vs1,l1,v1⟩:=ci g1 r1
      obtain⟨vs2,l2,v2⟩:=ci g2 r2
      obtain⟨m,F,N,back⟩:=t.led
      refine η1 ?_
      refine add_arrays F N l1 l2 (fun h' F' N'=>?_) (by have:=Jj hz; simpa [v1.length,v2.length] using this)
      have pre:ρ<+:ρ++[s.heap.objs.size]:=Oz.g28 _ _
      refine p _ _ _ pre (t.allocN back F' N' (Oz.g3 _) ⟨_,0,rfl,(v1.append v2).mono pre,?_⟩) ⟨_,by rw [← t.len]; simp,rfl⟩
      have:=of_decide_eq_true hz
      simp; exact Oz.o612 this
     ·exact p.elim
    ·exact p.elim
   | _=>exact p.elim
  | _=>exact p.elim
 | _=>cases y <;> exact p.elim
noncomputable def eAt (n:Nat) (h:HP) (xs ys:List AV) (j:Nat):Bool:=match xs[j]?,ys[j]? with
 | some x,some y=>(eqv n h x y).getD false
 | _,_=>false
theorem vi {n:Nat}{h:HP}:∀ {xs ys:List AV}{b:Bool},xs.length=ys.length→b9 (List.zipWith (eqv n h) xs ys)=some b →
  b=(List.range xs.length).all (eAt n h xs ys)∧∀ (j:Nat) x y,xs[j]?=some x→ys[j]?=some y→eqv n h x y=some (eAt n h xs ys j)
 | [],[],b,_,e=>by
  simp only [List.zipWith_nil_left,b9,Option.some.injEq] at e
  subst e
  exact⟨rfl,fun j x y h1=>by simp at h1⟩
 | x::xs,y::ys,b,hl,e=>by
  simp only [List.zipWith_cons_cons] at e
  cases q:eqv n h x y with
  | none=>rw [q] at e; simp [b9] at e
  | some c =>
   rw [q] at e
   simp only [b9,Oz.g11] at e
   refine Oz.z fun ζ η=>?_
   obtain⟨d,e1,rfl⟩:=e
   obtain⟨h1,h2⟩:=vi (by simpa using hl) e1
   refine η ?_
   have e0:eAt n h (x::xs) (y::ys) 0=c:=by simp [eAt,q]
   have es:∀ j,eAt n h (x::xs) (y::ys) (j+1)=eAt n h xs ys j:=fun j=>by simp [eAt]
   refine⟨?_,fun j=>?_⟩
   ·rw [List.length_cons,List.range_succ_eq_map,List.all_cons,List.all_map,e0,h1]
    congr 1
   ·cases j with
    | zero =>
     intro x' y' a1 a2
     simp at a1 a2
     subst a1; subst a2
     rw [e0,q]
    | succ j =>
     intro x' y' a1 a2
     rw [es j]
     exact h2 j x' y' (by simpa using a1) (by simpa using a2)
theorem Cu {r:AV→AV→Option Bool}{p q:Option AO}{b:Bool}(e:eqR r p q=some b):(Oz.E2 fun xs ys=>p=some (.list xs)∧q=some (.list ys)∧(if xs.length=ys.length then b9 (List.zipWith r xs ys) else some false)=some b)∨Oz.E2 fun xs ys=>p=some (.tup xs)∧q=some (.tup ys)∧(if xs.length=ys.length then b9 (List.zipWith r xs ys) else Option.none)=some b:=by
 cases p with
 | none=>cases e
 | some o =>
  cases o with
  | list xs =>
   cases q with
   | none=>cases e
   | some o'=>cases o' with
    | list ys=>exact .inl ⟨_,_,rfl,rfl,e⟩
    | _=>cases e
  | tup xs =>
   cases q with
   | none=>cases e
   | some o'=>cases o' with
    | tup ys=>exact .inr ⟨_,_,rfl,rfl,e⟩
    | _=>cases e
  | _=>cases e
theorem Bc {h:HP}:∀ {n:Nat}{a:AV}{b:Bool},eqv n h a a=some b→b=true
 | 0,_,_,e=>by cases e
 | n+1,a,b,e=>by
  have all:∀ {xs:List AV}{b:Bool},b9 (List.zipWith (eqv n h) xs xs)=some b→b=true:=by
   intro xs
   induction xs with
   | nil=>intro b e; simp [b9] at e; first | exact e.symm | exact e
   | cons x xs ih =>
    intro b e
    simp only [List.zipWith_cons_cons] at e
    cases q:eqv n h x x with
    | none=>rw [q] at e; simp [b9] at e
    | some c =>
     rw [q] at e
     simp only [b9,Oz.g11] at e
     obtain⟨d,e1,rfl⟩:=e
     rw [Bc q,ih e1]; rfl
  cases a with
  | none=>cases e; rfl
  | bool _=>cases e; exact decide_eq_true rfl
  | int _=>cases e; exact decide_eq_true rfl
  | str _=>cases e
  | ref i =>
   rcases Cu (show eqR (eqv n h) h[i]? h[i]?=some b from e) with ⟨xs,ys,e1,e2,e⟩ | ⟨xs,ys,e1,e2,e⟩
   all_goals
    rw [e1] at e2
    cases e2
    rw [if_pos rfl] at e
    exact all e
theorem Cw {α:Type} [DecidableEq α] (a b:α):decide (a=b)=(a == b):=by
 by_cases h:a=b <;> simp [h]
theorem qm {x y:AV}{x' y' : Value}{b:Bool}(t:At Γ f hid ρ l h s):∀ (n:Nat) (A:Around){x y:AV}{x' y' : Value}{b:Bool},A.units+n<cLine→VR ρ x x'→VR ρ y y'→eqv n h x y=some b →
  SeqAt.RcAt A s x' y' b∧SeqAt.RcNeAt A s x' y' (!b)∧SeqAt.EqAt A s x' y' b
 | 0,_,_,_,_,_,_,_,_,_,e=>by cases e
 | n+1,A,x,y,x',y',b,hu,vx,vy,e=>by
  cases x with
  | none =>
   cases vx
   cases y with
   | none=>cases vy; cases e; exact⟨.none_none,.none_none,.same _⟩
   | int j=>obtain⟨u,rfl⟩:=vy; cases e; exact⟨.none_int _ _,.none_int _ _,.none_int _ _⟩
   | _=>cases e
  | bool c =>
   cases vx
   cases y with
   | bool d=>cases vy; cases e; rw [Cw]; exact⟨.bool_bool _ _,.bool_bool _ _,.bool_bool _ _⟩
   | _=>cases e
  | int i =>
   obtain⟨u,rfl⟩:=vx
   cases y with
   | none=>cases vy; cases e; exact⟨.int_none _ _,.int_none _ _,.int_none _ _⟩
   | int j=>obtain⟨u',rfl⟩:=vy; cases e; rw [Cw]; exact⟨.int_int _ _ _ _,.int_int _ _ _ _,.int_int _ _ _ _⟩
   | _=>cases e
  | str _=>cases y <;> cases e
  | ref i =>
   cases y with
   | ref j =>
    have e0:=e
    refine Oz.z fun ζ η=>?_
    obtain⟨c,hc,rfl⟩:=vx
    obtain⟨d,hd,rfl⟩:=vy
    refine η ?_
    have fin:SeqAt.RcAt A s (.ref c) (.ref d) b→SeqAt.EqAt A s (.ref c) (.ref d) b:=fun rc=>by
     by_cases q:c=d
     ·subst q
      have hij:i=j:=by
       by_cases hij:i=j
       ·exact hij
       ·exact absurd rfl (t.apart hc hd hij)
      subst hij
      rw [Bc e0]
      exact .same _
     ·exact .of_refs q rc
    have hu1:A.units<cLine:=Oz.o613 hu
    rcases Cu (show eqR (eqv n h) h[i]? h[j]?=some b from e) with ⟨xs,ys,e1,e2,e⟩ | ⟨xs,ys,e1,e2,e⟩
    ·refine Oz.z fun ζ1 η1=>?_
     obtain⟨o1,g1,r1⟩:=t.obj i _ c e1 hc
     obtain⟨o2,g2,r2⟩:=t.obj j _ d e2 hd
     obtain⟨vs1,l1,v1⟩:=ci g1 r1
     obtain⟨vs2,l2,v2⟩:=ci g2 r2
     refine η1 ?_
     by_cases hl:xs.length=ys.length
     ·rw [if_pos hl] at e
      obtain⟨h1,h2⟩:=vi hl e
      have he:∀ k (a1:k<vs1.toArray.size) (a2:k<vs2.toArray.size),SeqAt.EqAt A.in1 s vs1.toArray[k] vs2.toArray[k] (eAt n h xs ys k):=by
       intro k a1 a2
       simp only [List.size_toArray] at a1 a2
       have b1:k<xs.length:=by rw [← v1.length]; exact a1
       have b2:k<ys.length:=by rw [← v2.length]; exact a2
       refine Oz.z fun ζ2 η2=>?_
       obtain⟨w1,g1,w1'⟩:=v1.get (Oz.g10 b1)
       obtain⟨w2,g2,w2'⟩:=v2.get (Oz.g10 b2)
       refine η2 ?_
       have:=qm (x:=x) (y:=y) (x' := x') (y' := y') (b:=b) t n A.in1 (by simp; exact Oz.o614 hu) w1' w2' (h2 k _ _ (Oz.g10 b1) (Oz.g10 b2))
       have q1:vs1[k]=w1:=by rw [Oz.g10 a1] at g1; exact Option.some.inj g1
       have q2:vs2[k]=w2:=by rw [Oz.g10 a2] at g2; exact Option.some.inj g2
       simp only [List.getElem_toArray,q1,q2]
       exact this.2.2
      have hs:vs1.toArray.size=vs2.toArray.size:=by simp [v1.length,v2.length,hl]
      have q:b=(List.range vs1.toArray.size).all (eAt n h xs ys):=by rw [h1]; simp [v1.length]
      rw [q]
      rw [q] at fin
      exact⟨.lists l1 l2 hs hu1 he,.lists l1 l2 hs hu1 he,fin (.lists l1 l2 hs hu1 he)⟩
     ·rw [if_neg hl] at e
      cases e
      have hs:(vs1.toArray.size != vs2.toArray.size)=true:=by simp [v1.length,v2.length,hl]
      exact⟨.lists_lengths l1 l2 hs hu1,.lists_lengths l1 l2 hs hu1,fin (.lists_lengths l1 l2 hs hu1)⟩
    ·refine Oz.z fun ζ3 η3=>?_
     obtain⟨o1,g1,r1⟩:=t.obj i _ c e1 hc
     obtain⟨o2,g2,r2⟩:=t.obj j _ d e2 hd
     obtain⟨vs1,l1,_,v1⟩:=n7 g1 r1
     obtain⟨vs2,l2,_,v2⟩:=n7 g2 r2
     refine η3 ?_
     by_cases hl:xs.length=ys.length
     ·rw [if_pos hl] at e
      obtain⟨h1,h2⟩:=vi hl e
      have he:∀ k (a1:k<vs1.toArray.size) (a2:k<vs2.toArray.size),SeqAt.EqAt A.in1 s vs1.toArray[k] vs2.toArray[k] (eAt n h xs ys k):=by
       intro k a1 a2
       simp only [List.size_toArray] at a1 a2
       have b1:k<xs.length:=by rw [← v1.length]; exact a1
       have b2:k<ys.length:=by rw [← v2.length]; exact a2
       refine Oz.z fun ζ4 η4=>?_
       obtain⟨w1,g1,w1'⟩:=v1.get (Oz.g10 b1)
       obtain⟨w2,g2,w2'⟩:=v2.get (Oz.g10 b2)
       refine η4 ?_
       have:=qm (x:=x) (y:=y) (x' := x') (y' := y') (b:=b) t n A.in1 (by simp; exact Oz.o614 hu) w1' w2' (h2 k _ _ (Oz.g10 b1) (Oz.g10 b2))
       have q1:vs1[k]=w1:=by rw [Oz.g10 a1] at g1; exact Option.some.inj g1
       have q2:vs2[k]=w2:=by rw [Oz.g10 a2] at g2; exact Option.some.inj g2
       simp only [List.getElem_toArray,q1,q2]
       exact this.2.2
      have q:b=((List.range (min vs1.toArray.size vs2.toArray.size)).all (eAt n h xs ys)&&vs1.toArray.size == vs2.toArray.size):=by rw [h1]; simp [v1.length,v2.length,hl]
      rw [q]
      rw [q] at fin
      exact⟨.tuples l1 l2 hu1 he,.tuples l1 l2 hu1 he,fin (.tuples l1 l2 hu1 he)⟩
     ·rw [if_neg hl] at e; cases e
   | _=>cases e
end
end Sk
namespace Sk
open PySem PySem.Calls PySem.W PyProof.Rows PySem.Spec
structure CxOk (Γ:Cx):Prop where
 X:Γ.K.In Γ.base
 g:Γ.base.Ns mainGlobals Γ.mg
 b:Γ.base.Ns builtinsNs Γ.mb
 nolimit:Γ.base.NoLimit
 bts:∀ x:Str,x≠("__name__" : Str)→Γ.mb x=bootBuiltins x
 attrInj:∀ i j x,Γ.tx.attr i=some x→Γ.tx.attr j=some x→i=j
 inst:∀ C,Γ.tx.clsAddr 0=some C→hasDictIn Γ.K C=true∧findIn Γ.K (.ref C) "__getattribute__" = some (some (.builtin "object.__getattribute__"))∧findIn Γ.K (.ref C) "__getattr__" = some none ∧
  findIn Γ.K (.ref C) "__setattr__" = some (some (.builtin "object.__setattr__"))∧plainOver Γ.K C=true∧∀ n x,Γ.tx.attr n=some x→findIn Γ.K (.ref C) x=some none∧takerIn Γ.K C x=some none
noncomputable def bltNames:List Str:=["len","list","sorted","int","min","max","all","range","reversed","enumerate","isinstance","bool","tuple","ValueError"]
structure CxFn (Γ:Cx):Prop where
 fnG:∀ i x,Γ.tx.fnName i=some x→∃ a,Γ.tx.fnAddr i=some a∧Γ.mg x=some (.ref a)∧keepIn Γ.K (.ref a)=true
 clsG:∀ c x,Γ.tx.clsName c=some x→∃ C,Γ.tx.clsAddr c=some C∧Γ.mg x=some (.ref C)
 blt:∀ x∈bltNames,Γ.mg x=Option.none
 mthG:∀ c m fi,Γ.G.meth c m=some fi→c=0∧Oz.E3 fun C x a=>Γ.tx.clsAddr 0=some C∧Γ.tx.mth m=some x∧Γ.tx.fnAddr fi=some a∧findIn Γ.K (.ref C) x=some (some (.ref a))∧isFn Γ.K (.ref a)=true∧keepIn Γ.K (.ref a)=true∧∀ n,Γ.tx.attr n≠some x
 initG:∀ c fi,Γ.G.init c=some fi→c=0∧Oz.E2 fun C a=>Γ.tx.clsAddr 0=some C∧Γ.tx.fnAddr fi=some a∧makesIn Γ.K C=true∧findIn Γ.K (.ref C) "__init__" = some (some (.ref a))∧isFn Γ.K (.ref a)=true∧keepIn Γ.K (.ref C)=true
 sysm:∃ o,Γ.base.get? sysModules=some o
theorem cq.refKey {tx:Tx}{P:Params}{ρ:List Addr}{fs:List (Nat×AV)}{es:List DictEntry}(h:cq tx P ρ fs es):es.any (·.refKey)=false:=by
 induction fs generalizing es with
 | nil=>cases es with
  | nil=>rfl
  | cons _ _=>exact h.elim
 | cons q fs ih=>cases es with
  | nil=>exact h.elim
  | cons e es =>
   refine Oz.z fun ζ η=>?_
   obtain⟨⟨x,t,_,b,_,_⟩,r⟩:=h
   refine η ?_
   rw [List.any_cons,ih r]
   simp [DictEntry.refKey,b]
theorem cq.length {tx:Tx}{P:Params}{ρ:List Addr}{fs:List (Nat×AV)}{es:List DictEntry}(h:cq tx P ρ fs es):es.length=fs.length:=by
 induction fs generalizing es with
 | nil=>cases es with
  | nil=>rfl
  | cons _ _=>exact h.elim
 | cons q fs ih=>cases es with
  | nil=>exact h.elim
  | cons e es=>obtain⟨_,r⟩:=h; rw [List.length_cons,List.length_cons,ih r]
set_option tactic.hygienic true in
theorem cq.get {tx:Tx}{P:Params}{ρ:List Addr}(inj:∀ i j x,tx.attr i=some x→tx.attr j=some x→i=j){n:Nat}{x:Str}(hx:tx.attr n=some x)
  {fs:List (Nat×AV)}{es:List DictEntry}{v:AV}(h:cq tx P ρ fs es) (e:fs.lookup n=some v):∃ v',getL x es=some (some v')∧VR ρ v v' := by
 induction fs generalizing es with
 | nil=>cases e
 | cons q fs ih=>cases es with
  | nil=>exact h.elim
  | cons en es =>
   refine Oz.z fun ζ η=>?_
   obtain⟨k,w⟩:=q
   obtain⟨⟨y,t,a,b,c,d⟩,r⟩:=h
   refine η ?_
   rw [List.lookup_cons] at e
   by_cases q:(n == k)=true
   ·rw [q] at e
    cases e
    have:k=n:=(eq_of_beq q).symm
    subst this
    have:y=x:=Option.some.inj (a.symm.trans hx)
    subst this
    refine⟨en.val,?_,d⟩
    unfold getL
    simp [List.find?_cons,b,Value.isStr]
   ·rw [Bool.eq_false_iff.mpr q] at e
    obtain⟨v',h1,h2⟩:=ih r e
    refine⟨v',?_,h2⟩
    have ne:y≠x:=fun z=>q (by rw [inj k n y a (z ▸ hx)]; simp)
    have:en.key.isStr x=false:=by rw [b]; simp [Value.isStr,ne]
    unfold getL at h1 ⊢
    rw [List.find?_cons,this]
    split at h1
    ·rename_i e1; rw [e1]; exact h1
    ·rename_i e1; split at h1 <;> cases h1
theorem cq.none {tx:Tx}{P:Params}{ρ:List Addr}{x:Str}(hx:∀ n,tx.attr n≠some x):∀ {fs:List (Nat×AV)}{es:List DictEntry},cq tx P ρ fs es→getL x es=some Option.none:=by
 intro fs es h
 have hf:es.find? (·.key.isStr x)=Option.none:=by
  induction es generalizing fs with
  | nil=>rfl
  | cons e es ih =>
   cases fs with
   | nil=>exact h.elim
   | cons p fs =>
    refine Oz.z fun ζ η=>?_
    obtain⟨⟨y,t,a,b,c,d⟩,r⟩:=h
    refine η ?_
    have ne:y≠x:=fun z=>hx p.1 (z ▸ a)
    rw [List.find?_cons,show e.key.isStr x=false by rw [b]; simp [Value.isStr,ne]]
    exact ih r
 unfold getL
 rw [hf]
 simp only [h.refKey]
 rfl
theorem cq.getSome {tx:Tx}{P:Params}{ρ:List Addr}{x:Str}{fs:List (Nat×AV)}{es:List DictEntry}(h:cq tx P ρ fs es):(getL x es).isSome=true:=by
 unfold getL
 split
 ·rfl
 ·simp [h.refKey]
theorem cq.put {tx:Tx}{P:Params}{ρ:List Addr}(inj:∀ i j x,tx.attr i=some x→tx.attr j=some x→i=j){n:Nat}{x:Str}{t:Tok}(hx:tx.attr n=some x){v:AV}{v' : Value}(hv:VR ρ v v')
  {fs:List (Nat×AV)}{es:List DictEntry}(h:cq tx P ρ fs es):cq tx P ρ (o0 n v fs) (putL x (PyData.keyHash P x) (.str x t) v' es):=by
 induction fs generalizing es with
 | nil=>cases es with
  | nil=>exact⟨⟨x,t,hx,rfl,rfl,hv⟩,trivial⟩
  | cons _ _=>exact h.elim
 | cons q fs ih=>cases es with
  | nil=>exact h.elim
  | cons en es =>
   refine Oz.z fun ζ η=>?_
   obtain⟨k,w⟩:=q
   obtain⟨⟨y,u,a,b,c,d⟩,r⟩:=h
   refine η ?_
   unfold o0 putL
   by_cases q:k=n
   ·subst q
    have:y=x:=Option.some.inj (a.symm.trans hx)
    subst this
    rw [if_pos rfl,if_pos (by rw [b]; simp [Value.isStr])]
    exact⟨⟨y,u,a,b,c,hv⟩,r⟩
   ·rw [if_neg q,if_neg (by rw [b]; simp [Value.isStr]; exact fun z=>q (inj k n y a (z ▸ hx)))]
    exact⟨⟨y,u,a,b,c,d⟩,ih r⟩
theorem uj (n:Nat) (v:AV):∀ fs:List (Nat×AV),(o0 n v fs).length≤fs.length+1
 | []=>by simp [o0]
 | p::r=>by
  unfold o0
  split
  ·simp
  ·simp; exact uj n v r
section
variable {Γ:Cx}{f:Fm}{hid:List (Addr×Obj)}{ρ:List Addr}{l:LOC}{h:HP}{s:Shared}{E:Value→Shared→Prop}{Q:Value→Shared→Prop}{ex:Nat→HP→Prop}
theorem ph {op:COp}{x y:AV}{x' y' : Value}(t:At Γ f hid ρ l h s) (hu:f.A.units+6<cLine) (vx:VR ρ x x') (vy:VR ρ y y')
  (p:aw (cj op x y h) (OKQ Γ f hid ρ l Q) ex):wpAny (model Γ.prog Γ.w) f.A (compareOp (oq op) x' y') Q E s:=by
 cases op with
 | eq =>
  have p:aw (match eqv 6 h x y with | some r=>R.ok (AV.bool r) h | Option.none=>.err) (OKQ Γ f hid ρ l Q) ex:=p
  cases e:eqv 6 h x y with
  | none=>rw [e] at p; exact p.elim
  | some r =>
   rw [e] at p
   exact EqBoolInt.of_rc (qm (x:=x) (y:=y) (x' := x') (y' := y') (b:=r) t 6 f.A hu vx vy e).1 (p _ _ _ (Oz.g7 _) t rfl)
 | ne =>
  have p:aw (match eqv 6 h x y with | some r=>R.ok (AV.bool (!r)) h | Option.none=>.err) (OKQ Γ f hid ρ l Q) ex:=p
  cases e:eqv 6 h x y with
  | none=>rw [e] at p; exact p.elim
  | some r =>
   rw [e] at p
   exact EqBoolInt.of_rcne (qm (x:=x) (y:=y) (x' := x') (y' := y') (b:=r) t 6 f.A hu vx vy e).2.1 (p _ _ _ (Oz.g7 _) t rfl)
 | lt =>
  cases x <;> cases y <;> try exact p.elim
  obtain⟨_,rfl⟩:=vx; obtain⟨_,rfl⟩:=vy
  exact lt_int (p _ _ _ (Oz.g7 _) t rfl)
 | le =>
  cases x <;> cases y <;> try exact p.elim
  obtain⟨_,rfl⟩:=vx; obtain⟨_,rfl⟩:=vy
  exact le_int (p _ _ _ (Oz.g7 _) t rfl)
 | gt =>
  cases x <;> cases y <;> try exact p.elim
  obtain⟨_,rfl⟩:=vx; obtain⟨_,rfl⟩:=vy
  exact gt_int (p _ _ _ (Oz.g7 _) t rfl)
 | ge =>
  cases x <;> cases y <;> try exact p.elim
  obtain⟨_,rfl⟩:=vx; obtain⟨_,rfl⟩:=vy
  exact ge_int (p _ _ _ (Oz.g7 _) t rfl)
theorem Ln {neg:Bool}{x:AV}{x' : Value}{c:Option Bool}(t:At Γ f hid ρ l h s) (vx:VR ρ x x')
  (p:aw (Mu neg x c h) (OKQ Γ f hid ρ l Q) ex):wpAny (model Γ.prog Γ.w) f.A (compareOp (if neg then .IsNot else .Is) x' (match c with | Option.none=>.none | some b=>.bool b)) Q E s:=by
 have go:∀ {v:Value}{b:Bool},plainIs x' v=true→(x' == v)=b→Q (.bool (neg ^^ b)) s→wpAny (model Γ.prog Γ.w) f.A (compareOp (if neg then .IsNot else .Is) x' v) Q E s:=by
  intro v b h1 h2 h3
  cases neg
  ·exact wpAny_is_plain h1 (by rw [h2]; simpa using h3)
  ·exact wpAny_isNot_plain h1 (by rw [h2]; simpa using h3)
 cases c with
 | none =>
  cases x with
  | none=>cases vx; exact go rfl rfl (p _ _ _ (Oz.g7 _) t rfl)
  | bool b=>cases vx; exact go rfl rfl (p _ _ _ (Oz.g7 _) t rfl)
  | int i=>obtain⟨_,rfl⟩:=vx; exact go rfl rfl (p _ _ _ (Oz.g7 _) t rfl)
  | str _=>exact p.elim
  | ref a=>obtain⟨c,_,rfl⟩:=vx; exact go rfl rfl (p _ _ _ (Oz.g7 _) t rfl)
 | some d =>
  cases x with
  | bool b=>cases vx; exact go rfl (b:=decide (b=d)) (by cases b <;> cases d <;> rfl) (p _ _ _ (Oz.g7 _) t rfl)
  | _=>exact p.elim
theorem tq {vs:List Value}{ns:List Int}(h:IntsAre vs ns) (k:Int):(vs.toArray.any fun y=>match y with | .int i _=>i == k | _=>false)=decide (k∈ns):=by
 rw [List.any_toArray]
 induction h with
 | nil=>simp
 | cons n t _ ih =>
  rw [List.any_cons,ih]
  by_cases q:n=k
  ·subst q; simp
  ·have:¬ k=n:=fun e=>q e.symm
   simp [q,this]
theorem Hy {vs:List Value}{ns:List Int}(h:IntsAre vs ns):∀ y∈vs,Oz.E2 fun a t=>y=Value.int a t:=by
 induction h with
 | nil=>intro y hy; cases hy
 | cons n t _ ih =>
  intro y hy
  rcases Oz.g6.mp hy with rfl | hy
  ·exact⟨_,_,rfl⟩
  ·exact ih y hy
theorem kh (ks:List Int) (k:Int):(valueAt (ks.map fun k=>(k,Value.bool true)) k).isSome=decide (k∈ks):=by
 unfold valueAt
 rw [Option.isSome_map]
 induction ks with
 | nil=>simp
 | cons a r ih =>
  rw [List.map_cons,List.find?_cons]
  by_cases q:a=k
  ·subst q; simp
  ·have:¬ k=a:=fun e=>q e.symm
   simp only [q,decide_false,ih]
   simp [this]
theorem pu (t:At Γ f hid ρ l h s) (ok:CxOk Γ) (hsm:∃ o,Γ.base.get? sysModules=some o){i:Nat}{c:Addr}(hc:ρ[i]?=some c):(c == sysModules)=false:=by
 have:=t.fresh c (t.mem hc)
 obtain⟨o,ho⟩:=hsm
 cases q:c == sysModules with
 | false=>rfl
 | true=>rw [eq_of_beq q,ho] at this; cases this
theorem Jp {neg:Bool}{x y:AV}{x' y' : Value}(t:At Γ f hid ρ l h s) (ok:CxOk Γ) (hsm:∃ o,Γ.base.get? sysModules=some o) (vx:VR ρ x x') (vy:VR ρ y y')
  (p:aw (n6 neg x y h) (fun v h'=>h'=h→∀ b,v=.bool b→∀ tk,Q (.bool b) { s with toks:=tk }) ex):wpAny (model Γ.prog Γ.w) f.A (compareOp (if neg then .NotIn else .In) x' y') Q E s:=by
 cases x with
 | int i =>
  cases y with
  | ref j =>
   refine Oz.z fun ζ η=>?_
   obtain⟨u,rfl⟩:=vx
   obtain⟨d,hd,rfl⟩:=vy
   obtain⟨r,e0,p⟩:=bl (show aw (((h[j]?).bind (wc i)).elim .err fun r=>R.ok (AV.bool (neg ^^ r)) h) _ _ from p)
   obtain⟨ao,e,ek⟩:=Oz.g22.mp e0
   refine η ?_
   cases ao with
   | list vs =>
    obtain⟨ns,e1,rfl⟩:=Oz.g11.mp ek
    ·refine Oz.z fun ζ1 η1=>?_
     obtain⟨o,g,r⟩:=t.obj j _ d e hd
     obtain⟨vs',l1,v1⟩:=ci g r
     refine η1 ?_
     have hI:=v1.ints e1
     have he:∀ y,y∈vs'.toArray→MeetsSeq.EqGives y (.int i u) (match y with | .int k _=>k == i | _=>false):=fun y hy=>by
      obtain⟨a,w,rfl⟩:=Hy hI y (by simpa using hy)
      exact MeetsSeq.EqGives.int a i w u
     cases neg
     ·exact SeqInW.in_listW _ he l1 (by rw [tq hI]; simpa using p rfl _ rfl s.toks)
     ·exact SeqInW.notIn_listW _ he l1 (by rw [tq hI]; simpa using p rfl _ rfl s.toks)
   | dict ks =>
    cases ek
    obtain⟨o,g,r,_⟩:=t.obj j _ d e hd
    have hm:=(Heap.dictOf_iff.mpr ⟨o,g,r⟩).mapOf
    cases neg
    ·exact wpAny_in_of (intKind_is _ _ i u) (pu t ok hsm hd) hm (by rw [kh]; simpa using p rfl _ rfl _)
    ·exact wpAny_notIn_of (intKind_is _ _ i u) (pu t ok hsm hd) hm (by rw [kh]; simpa using p rfl _ rfl _)
   | _=>cases ek
  | _=>exact p.elim
 | _=>exact p.elim
theorem Lo {neg:Bool}{x y:AV}{x' y' : Value}(t:At Γ f hid ρ l h s) (ok:CxOk Γ) (hsm:∃ o,Γ.base.get? sysModules=some o) (vx:VR ρ x x') (vy:VR ρ y y')
  (p:aw (n6 neg x y h) (OKQ Γ f hid ρ l Q) ex):wpAny (model Γ.prog Γ.w) f.A (compareOp (if neg then .NotIn else .In) x' y') Q E s :=
 Jp t ok hsm vx vy (p.mono (fun v h' q e b eb tk=>by subst e; subst eb; exact q _ _ _ (Oz.g7 _) (t.toks tk) rfl) fun ζ ζ x=>x)
end
end Sk
namespace Sk
open PySem PySem.Calls PySem.W PyProof.Rows PySem.Spec
theorem gj {hp:Heap}{adr:List Addr}(h:adr.Nodup):((fv hp adr).map (·.1)).Nodup:=by
 unfold fv
 rw [List.map_filterMap]
 refine List.Pairwise.filterMap _ (fun a a' hne b hb b' hb'=>?_) h
 refine Oz.z fun ζ η=>?_
 obtain⟨p,e1,e2⟩:=Oz.g11.mp hb
 obtain⟨q,e3,e4⟩:=Oz.g11.mp hb'
 obtain⟨o,_,rfl⟩:=Oz.g11.mp e1
 obtain⟨o',_,rfl⟩:=Oz.g11.mp e3
 refine η ?_
 simp only at e2 e4
 subst e2; subst e4
 exact hne
theorem pf {d:Addr}{o:Obj}(o' : Obj):∀ {l:List (Addr×Obj)},(l.map (·.1)).Nodup→(d,o)∈l→∃ l',Upd d o o' l l'∧(d,o')∈l'∧∀ p∈l,p.1≠d→p∈l'
 | [],_,h=>by cases h
 | p::r,hn,h=>by
  rw [List.map_cons,Oz.g20] at hn
  by_cases q:p.1=d
  ·have hp:p=(d,o):=by
    rcases Oz.g6.mp h with e | e
    ·exact e.symm
    ·exact absurd (Oz.g8.mpr ⟨_,e,rfl⟩) (q ▸ hn.1)
   subst hp
   exact⟨(d,o')::r,.head fun z hz e=>hn.1 (Oz.g8.mpr ⟨z,hz,e⟩),.head _,fun z hz hne=>by
    rcases Oz.g6.mp hz with rfl | hz
    ·exact absurd rfl hne
    ·exact .tail _ hz⟩
  ·have hr:(d,o)∈r:=by
    rcases Oz.g6.mp h with e | e
    ·exact absurd (congrArg Prod.fst e).symm q
    ·exact e
   obtain⟨l',h1,h2,h3⟩:=pf o' hn.2 hr
   exact⟨p::l',.tail q h1,.tail _ h2,fun z hz hne=>by
    rcases Oz.g6.mp hz with rfl | hz
    ·exact .head _
    ·exact .tail _ (h3 z hz hne)⟩
section
variable {Γ:Cx}{f:Fm}{hid:List (Addr×Obj)}{ρ:List Addr}{l:LOC}{h:HP}{s:Shared}{E:Value→Shared→Prop}{Q:Value→Shared→Prop}{ex:Nat→HP→Prop}
theorem At.adrNd (x:At Γ f hid ρ l h s):(f.adr' hid ρ).Nodup:=by
 have hn:=x.nodup
 rw [Fm.adr_eq,Oz.g17] at hn
 exact hn.1
theorem At.inAdr (x:At Γ f hid ρ l h s){i:Nat}{c:Addr}(e:ρ[i]?=some c):c∈f.adr' hid ρ:=Oz.g18 _ (Oz.g16 e)
theorem At.ledPut (x:At Γ f hid ρ l h s){i:Nat}{c:Addr}(hi:ρ[i]?=some c):∃ m,Fr Γ.base f.env.locals s.heap m∧News Γ.base f.env.locals s.heap (fv s.heap (f.adr' hid ρ)) ∧
  ∀ h' tk news' o ao,(∀ p∈fv s.heap (f.adr' hid ρ),p.1≠c→p∈news')→(c,o)∈news'→Fr Γ.base f.env.locals h' m→News Γ.base f.env.locals h' news'→kx Γ ρ ao o →
   At Γ f hid ρ l (h.set i ao) { s with heap:=h',toks:=tk } := by
 obtain⟨m,F,hl,hm⟩:=x.frm
 refine⟨m,F,fun p hp=>?_,fun h' tk news' o ao hin ho F' N hr=>?_⟩
 ·obtain⟨h1,h2⟩:=ey hp
  exact⟨h2,x.neL h1,x.fresh _ (by rw [Fm.adr_eq]; exact Oz.g18 _ h1)⟩
 ·have k:∀ d∈f.adr' hid ρ,d≠c→∀ o,s.heap.get? d=some o→h'.get? d=some o:=fun d hd hne o e=>(N _ (hin _ (ch hd e) hne)).1
  have hne:∀ d∈f.cells.map (·.2)++(hid.map (·.1)++f.fr0.map (·.1)),d≠c:=fun d hd=>x.apartRest hi (by
   simp only [Oz.g1] at hd ⊢
   rcases hd with hd | hd | hd
   ·exact .inl hd
   ·exact .inr (.inl hd)
   ·exact .inr (.inr (.inl hd)))
  refine⟨by rw [x.sh],⟨m,F',hl,fun j y v a b=>?_⟩,fun p hp=>?_,by simp [x.len],fun j ao' d a b=>?_,x.nodup,x.fresh,fun p hp=>?_,fun p hp=>?_⟩
  ·obtain⟨v',h1,h2⟩:=hm j y v a b
   refine⟨v',h1,h2.imp id fun⟨h3,d,h4,od,h5,h6⟩=>⟨h3,d,h4,od,k d ?_ (hne d ?_) od h5,h6⟩⟩
   ·simp only [Fm.adr',Oz.g1,Oz.g8]
    exact .inr (.inl ⟨_,bk h4,rfl⟩)
   ·simp only [Oz.g1,Oz.g8]
    exact .inl ⟨_,bk h4,rfl⟩
  ·obtain⟨v,od,h5,h6⟩:=x.cel p hp
   refine⟨v,od,k _ ?_ (hne _ ?_) od h5,h6⟩
   ·simp only [Fm.adr',Oz.g1]
    exact .inr (.inl (Oz.g15 hp))
   ·simp only [Oz.g1]
    exact .inl (Oz.g15 hp)
  ·by_cases q:j=i
   ·subst q
    have e1:d=c:=Option.some.inj (b.symm.trans hi)
    have e2:ao'=ao:=by rw [List.getElem?_set_self (x.lt hi)] at a; exact(Option.some.inj a).symm
    subst e1; subst e2
    exact⟨o,(N _ ho).1,hr⟩
   ·rw [Oz.g21 (Ne.symm q)] at a
    obtain⟨o',h1,h2⟩:=x.obj j ao' d a b
    exact⟨o',k d (x.inAdr b) (x.apart b hi q) o' h1,h2⟩
  ·refine k _ ?_ (hne _ ?_) _ (x.hidden p hp)
   ·simp only [Fm.adr',Oz.g1]
    exact .inr (.inr (.inl (Oz.g15 hp)))
   ·simp only [Oz.g1]
    exact .inr (.inl (Oz.g15 hp))
  ·obtain⟨sl,e⟩:=x.below p hp
   refine⟨sl,k _ ?_ (hne _ ?_) _ e⟩
   ·simp only [Fm.adr',Oz.g1]
    exact .inr (.inr (.inr (Oz.g15 hp)))
   ·simp only [Oz.g1]
    exact .inr (.inr (Oz.g15 hp))
theorem VR.handed {v:AV}{v' : Value}(h:VR ρ v v'):handedIn v'=true:=by
 cases v with
 | none=>cases h; rfl
 | bool _=>cases h; rfl
 | int _=>obtain⟨_,rfl⟩:=h; rfl
 | str _=>obtain⟨_,rfl⟩:=h; rfl
 | ref _=>obtain⟨_,_,rfl⟩:=h; rfl
theorem Ir {n i:Nat}{h:HP}{A:AV→HP→Prop}{B:Nat→HP→Prop}(p:aw (tp n (.ref i) h) A B):Oz.E4 fun c d fs v=>h[i]?=some (.inst c d)∧h[d]?=some (.fields fs)∧fs.lookup n=some v∧A v h:=by
 have p:aw (match h[i]? with
  | some (.inst _ d)=>(match h[d]? with
   | some (.fields fs)=>(match fs.lookup n with
    | some v=>R.ok v h
    | Option.none=>.err)
   | _=>.err)
  | _=>.err) A B:=p
 cases e:h[i]? with
 | none=>rw [e] at p; exact p.elim
 | some o =>
  rw [e] at p
  cases o with
  | inst c d =>
   have p:aw (match h[d]? with
    | some (.fields fs)=>(match fs.lookup n with
     | some v=>R.ok v h
     | Option.none=>.err)
    | _=>.err) A B:=p
   cases e' : h[d]? with
   | none=>rw [e'] at p; exact p.elim
   | some o' =>
    rw [e'] at p
    cases o' with
    | fields fs =>
     have p:aw (match fs.lookup n with | some v=>R.ok v h | Option.none=>.err) A B:=p
     cases ev:fs.lookup n with
     | none=>rw [ev] at p; exact p.elim
     | some v=>rw [ev] at p; exact⟨c,d,fs,v,rfl,e',ev,p⟩
    | _=>exact p.elim
  | _=>exact p.elim
theorem G9 {n:Nat}{x:AV}{x' : Value}{y:Str}(t:At Γ f hid ρ l h s) (ok:CxOk Γ) (hy:Γ.tx.attr n=some y) (vx:VR ρ x x')
  (p:aw (tp n x h) (OKQ Γ f hid ρ l Q) ex):wpAny (model Γ.prog Γ.w) f.A (getAttr x' y true) Q E s:=by
 cases x with
 | ref i =>
  refine Oz.z fun ζ η=>?_
  obtain⟨c,d,fs,v,e,e',ev,p⟩:=Ir p
  obtain⟨a,ha,rfl⟩:=vx
  obtain⟨o,g1,C,dx,⟨rfl,hC⟩,hdx,rfl⟩:=t.obj i _ a e ha
  obtain⟨od,g2,es,m,rfl,hf⟩:=t.obj d _ dx e' hdx
  obtain⟨v',h1,h2⟩:=hf.get ok.attrInj hy ev
  obtain⟨k1,k2,k3,k4,k5,k6⟩:=ok.inst C hC
  obtain⟨mm,F,_⟩:=t.frm
  refine η ?_
  exact get_own F ok.X ⟨g1,rfl,rfl,g2⟩ (by unfold plainGet; rw [k2,k3]; rfl) k1 (k6 n y hy).1 rfl h1 h2.handed (p _ _ _ (Oz.g7 _) (t.toks _) h2)
 | _=>exact p.elim
set_option tactic.hygienic true in
theorem Bz {n:Nat}{x v:AV}{x' v' : Value}{y:Str}{Q:Unit→Shared→Prop}(t:At Γ f hid ρ l h s) (ok:CxOk Γ) (hy:Γ.tx.attr n=some y) (vx:VR ρ x x') (vv:VR ρ v v')
  (p:aw (jr n x v h) (fun ζ h'=>∀ s',At Γ f hid ρ l h' s'→Q () s') ex):wpAny (model Γ.prog Γ.w) f.A (setAttr x' y v') Q E s:=by
 cases x with
 | ref i =>
  simp only [jr] at p
  split at p
  ·rename_i c d e
   split at p
   ·rename_i fs e'
    split at p
    ·rename_i hz
     refine Oz.z fun ζ η=>?_
     obtain⟨a,ha,rfl⟩:=vx
     obtain⟨o,g1,C,dx,⟨rfl,hC⟩,hdx,rfl⟩:=t.obj i _ a e ha
     obtain⟨od,g2,es,m,rfl,hf⟩:=t.obj d _ dx e' hdx
     obtain⟨k1,k2,k3,k4,k5,k6⟩:=ok.inst C hC
     obtain⟨mm,F,N,back⟩:=t.ledPut hdx
     have hfp:=hf.put (t:=s.toks+1) ok.attrInj hy vv
     have hlen:(putL y (PyData.keyHash Γ.w.params y) (.str y (s.toks+1)) v' es).length≤1000:=by
      rw [hfp.length]
      have:=uj n v fs
      exact Oz.o609 hz this
     obtain⟨news',U,hin1,hin2⟩:=pf (dictOf (putL y (PyData.keyHash Γ.w.params y) (.str y (s.toks+1)) v' es) (putN y es m)) (gj (hp:=s.heap) t.adrNd) (ch (t.inAdr hdx) g2)
     refine η ?_
     refine set_dict F ok.X N ⟨g1,rfl,rfl,g2⟩ rfl k4 k5 (k6 n y hy).2 k1 hf.getSome rfl U hlen fun h' F' N'=>p _ ?_
     exact back h' _ news' _ _ hin2 hin1 F' N' ⟨_,_,rfl,hfp⟩
    ·exact p.elim
   ·exact p.elim
  ·exact p.elim
 | _=>exact p.elim
end
end Sk
namespace Sk
open PySem PySem.Calls PySem.W PyProof.Rows PySem.Spec
theorem Hl (i:Int) (n:Nat):place i n=seqIndex? i n:=by
 unfold place seqIndex?
 simp only [Oz.g5,decide_eq_true_eq]
theorem vu {i:Int}{n j:Nat}(h:place i n=some j):j<n∧((0≤i∧i=j)∨(i<0∧i+n=j)):=by
 unfold place at h
 by_cases q2:i<0
 ·simp only [q2,if_true] at h
  split at h
  ·have:=Option.some.inj h; exact Oz.o546 ‹_› this
  ·cases h
 ·simp only [q2,if_false] at h
  split at h
  ·have:=Option.some.inj h; exact Oz.o547 ‹_› this
  ·cases h
section
variable {Γ:Cx}{f:Fm}{hid:List (Addr×Obj)}{ρ:List Addr}{l:LOC}{h:HP}{s:Shared}{E:Value→Shared→Prop}{Q:Value→Shared→Prop}{ex:Nat→HP→Prop}
theorem G4 {value slice:Expr}{x y:AV}{x' y' : Value}(t:At Γ f hid ρ l h s) (vx:VR ρ x x') (vy:VR ρ y y') (hs:subscripted slice false x' y'=operate [x',y'] (getItem x' y'))
  (p:aw (dh x y h) (OKQ Γ f hid ρ l Q) ex):wpAny (model Γ.prog Γ.w) f.A (subscriptTail value slice x' y') Q E s:=by
 cases x with
 | ref i =>
  cases y with
  | int k =>
   refine Oz.z fun ζ η=>?_
   obtain⟨c,hc,rfl⟩:=vx
   obtain⟨u,rfl⟩:=vy
   obtain⟨v,e0,p⟩:=bl (show aw ((((h[i]?).bind Aa).bind (mw k)).elim .err fun v=>R.ok v h) (OKQ Γ f hid ρ l Q) ex from p)
   obtain⟨vs,e1,ev0⟩:=Oz.g22.mp e0
   obtain⟨ao,e,es⟩:=Oz.g22.mp e1
   obtain⟨j,ej,ev⟩:=Oz.g22.mp ev0
   obtain⟨hj,hcs⟩:=vu ej
   refine η ?_
   have lst:∀ {vs' : List Value},s.heap.IsList c vs'.toArray→VRs ρ vs vs'→vs.length≤200000→wpAny (model Γ.prog Γ.w) f.A (subscriptTail value slice (.ref c) (.int k u)) Q E s:=fun {vs'} hl hv hz=>by
    obtain⟨v',e1,e2⟩:=hv.get ev
    have hlen:=hv.length
    refine tail_any hl.typeIs slot_list_getitem.lookup ?_ hs
    rcases hcs with ⟨h0,h1⟩ | ⟨h0,h1⟩
    ·exact wpAny_getItem_list hl h0 (by exact Oz.o548 hz hj h1) (by rw [show k.toNat=j by exact Oz.o549 h1]; simpa using e1) (p _ _ _ (Oz.g7 _) t e2)
    ·exact wpAny_getItem_list_neg hl h0 (by simp; exact Oz.o550 hlen h1) (Oz.o551 hz h1) (by rw [show(k+(vs'.toArray.size:Int)).toNat=j by simp; exact Oz.o552 hlen h1]; simpa using e1) (p _ _ _ (Oz.g7 _) t e2)
   cases ao with
   | list ws =>
    cases es
    refine Oz.z fun ζ1 η1=>?_
    obtain⟨o,g,vs',n,rfl,hv,hz⟩:=t.obj i _ c e hc
    refine η1 ?_
    exact lst ⟨_,g,rfl,n,rfl⟩ hv hz
   | tup ws =>
    cases es
    refine Oz.z fun ζ2 η2=>?_
    obtain⟨o,g,vs',n,rfl,hv,hz⟩:=t.obj i _ c e hc
    have hl:IsTup s.heap c vs'.toArray:=⟨_,g,rfl,n,rfl⟩
    obtain⟨v',e1,e2⟩:=hv.get ev
    refine η2 ?_
    have hlen:=hv.length
    refine tail_any hl.typeIs slot_tuple_getitem.lookup (getItem_tuple hl (Oz.o553 hz hcs) (Oz.o554 hz hj hcs) (by rw [← Hl]; simpa [hlen] using ej) (by simpa using e1) (p _ _ _ (Oz.g7 _) t e2)) hs
   | const ws =>
    cases es
    refine Oz.z fun ζ3 η3=>?_
    obtain⟨o,g,vs',n,oc,od,hv,hz⟩:=t.obj i _ c e hc
    refine η3 ?_
    exact lst ⟨_,g,oc,n,od⟩ hv hz.1
   | _=>cases es
  | _=>exact p.elim
 | _=>exact p.elim
theorem Bx (ks:List Int) (k:Int):stored (ks.map fun k=>(k,Value.bool true)) k (.bool true)=(ma k ks).map fun k=>(k,Value.bool true):=by
 unfold stored ma
 have e1:((ks.map fun k=>(k,Value.bool true)).any fun kv=>decide (kv.1=k))=decide (k∈ks):=by
  rw [List.any_map]
  induction ks with
  | nil=>simp
  | cons a r ih =>
   rw [List.any_cons,ih]
   by_cases q:a=k
   ·subst q; simp
   ·have:¬ k=a:=fun z=>q z.symm
    simp [q,this]
 rw [e1]
 by_cases q:k∈ks
 ·simp only [q,decide_true,if_true]
  rw [List.map_map]
  refine List.map_congr_left fun a ζ=>?_
  simp only [Function.comp]
  split <;> rfl
 ·simp [q]
theorem ze (k:Int) (ks:List Int):(ma k ks).length≤ks.length+1:=by
 unfold ma; split <;> simp
theorem By {x y v:AV}{x' y' v' : Value}{Q:Unit→Shared→Prop}(t:At Γ f hid ρ l h s) (vx:VR ρ x x') (vy:VR ρ y y') (vv:VR ρ v v')
  (p:aw (iy x y v h) (fun ζ h'=>∀ s',At Γ f hid ρ l h' s'→Q () s') ex):wpAny (model Γ.prog Γ.w) f.A (setItem x' y' v') Q E s:=by
 cases x with
 | ref i =>
  cases y with
  | int k =>
   refine Oz.z fun ζ η=>?_
   obtain⟨c,hc,rfl⟩:=vx
   obtain⟨u,rfl⟩:=vy
   replace p:=bl (show aw ((h[i]?).elim .err (Hf i k v h)) (fun ζ h'=>∀ s',At Γ f hid ρ l h' s'→Q () s') ex from p)
   obtain⟨ao,e,p⟩:=p
   refine η ?_
   cases ao with
   | list vs =>
    obtain⟨j,ej,p⟩:=bl (show aw ((place k vs.length).elim .err fun j=>if 0≤k then R.ok () (h.set i (.list (vs.set j v))) else .err) (fun ζ h'=>∀ s',At Γ f hid ρ l h' s'→Q () s') ex from p)
    ·by_cases hk:0≤k
     ·rw [if_pos hk] at p
      refine Oz.z fun ζ1 η1=>?_
      obtain⟨o,g,vs',n,rfl,hv,hz⟩:=t.obj i _ c e hc
      obtain⟨hj,hcs⟩:=vu ej
      have hlen:=hv.length
      have hkj:k.toNat=j:=Oz.o555 hk hcs
      obtain⟨mm,F,N,back⟩:=t.ledPut hc
      obtain⟨news',U,hin1,hin2⟩:=pf (listOf (vs'.set k.toNat v').toArray n) (gj (hp:=s.heap) t.adrNd) (ch (t.inAdr hc) g)
      obtain⟨pre,post,e1,rfl,a,b⟩:=U.split
      refine η1 ?_
      rw [e1] at N
      have z:=N (c,listOf vs'.toArray n) (Oz.g1.mpr (.inr (.head _)))
      refine ki_setAt z.1 hk (Oz.o556 hz hj hkj) (by simp; exact Oz.o557 hj hlen hkj) (p _ ?_)
      refine back _ s.toks _ _ _ hin2 hin1 (F.change (Heap.SameBut.update ..) z.2.1 z.2.2) (ki_turn _ N a b ?_ ?_) ⟨_,n,rfl,?_,?_⟩
      ·show vs'.toArray.setIfInBounds k.toNat v'=(vs'.set k.toNat v').toArray
       apply Array.toList_inj.mp
       simp
      ·simp
      ·rw [hkj]; exact hv.set j vv
      ·simp; exact Oz.o545 hz
     ·rw [if_neg hk] at p; exact p.elim
   | dict ks =>
    replace p:aw (if v=.bool true∧cb ks.length then R.ok () (h.set i (.dict (ma k ks))) else .err) (fun ζ h'=>∀ s',At Γ f hid ρ l h' s'→Q () s') ex:=p
    by_cases hk:v=.bool true∧cb ks.length
    ·rw [if_pos hk] at p
     refine Oz.z fun ζ2 η2=>?_
     obtain⟨o,g,r,hz⟩:=t.obj i _ c e hc
     obtain⟨rfl,hz2⟩:=hk
     refine η2 ?_
     cases vv
     refine wpAny_setItem_pairs (intKind_is _ _ k u) (Heap.dictOf_iff.mpr ⟨o,g,r⟩) (fun h' hm hs=>p _ ?_) (by simp; exact Oz.g2 hz (by decide))
     obtain⟨o',g',r'⟩:=Heap.dictOf_iff.mp hm
     refine t.put (by rw [t.sh]) hc (fun b ob hb e=>(hs.2 b hb).trans e) g' ⟨?_,?_⟩
     ·rw [Bx] at r'; exact r'
     ·have:=ze k ks
      have:=of_decide_eq_true hz2
      exact Oz.o558 ‹_› this
    ·rw [if_neg hk] at p; exact p.elim
   | _=>exact p.elim
  | _=>exact p.elim
 | _=>exact p.elim
end
end Sk
namespace Sk
open PySem PySem.Calls PySem.W PyProof.Rows PySem.Spec
noncomputable def zn:BF→Value
 | .len=>.builtin "len" | .list=>.type "list" | .listRange=>.none | .sorted=>.builtin "sorted" | .int=>.type "int" | .min=>.builtin "min" | .max=>.builtin "max" | .max1=>.builtin "max" | .all=>.builtin "all"
section
variable {Γ:Cx}{f:Fm}{hid:List (Addr×Obj)}{ρ:List Addr}{l:LOC}{h:HP}{s:Shared}{E:Value→Shared→Prop}{Q:Value→Shared→Prop}{ex:Nat→HP→Prop}
theorem At.there (x:At Γ f hid ρ l h s):∀ c∈f.adr hid ρ,∃ o,s.heap.get? c=some o:=by
 intro c hc
 unfold Fm.adr at hc
 simp only [Oz.g1] at hc
 rcases hc with hc | hc | hc | hc | hc
 ·refine Oz.z fun ζ η=>?_
  obtain⟨i,hi,rfl⟩:=List.mem_iff_getElem.mp hc
  have hi' : i<h.length:=by rw [← x.len]; exact hi
  obtain⟨o,h1,_⟩:=x.obj i h[i] ρ[i] (Oz.g10 hi') (Oz.g10 hi)
  refine η ?_
  exact⟨o,h1⟩
 ·refine Oz.z fun ζ1 η1=>?_
  obtain⟨p,hp,rfl⟩:=Oz.g8.mp hc
  obtain⟨v,o,e,_⟩:=x.cel p hp
  refine η1 ?_
  exact⟨o,e⟩
 ·obtain⟨p,hp,rfl⟩:=Oz.g8.mp hc
  exact⟨_,x.hidden p hp⟩
 ·refine Oz.z fun ζ2 η2=>?_
  obtain⟨p,hp,rfl⟩:=Oz.g8.mp hc
  obtain⟨sl,e⟩:=x.below p hp
  refine η2 ?_
  exact⟨_,e⟩
 ·refine Oz.z fun ζ3 η3=>?_
  obtain⟨m,F,_⟩:=x.frm
  obtain⟨o,_,_,e,_⟩:=F.ns
  refine η3 ?_
  rw [Oz.g9.mp hc]; exact⟨o,e⟩
theorem At.allocL (x:At Γ f hid ρ l h s){m:Str→Option Value}{h' : Heap}{tk:Nat}{c:Addr}{o:Obj}{ao:AO}
  (back:∀ h' tk news,(∀ p∈fv s.heap (f.adr' hid ρ),p∈news)→Fr Γ.base f.env.locals h' m→News Γ.base f.env.locals h' news→At Γ f hid ρ l h { s with heap:=h',toks:=tk })
  (F' : Fr Γ.base f.env.locals h' m){news:List (Addr×Obj)}(N' : News Γ.base f.env.locals h' news) (hin:∀ p∈fv s.heap (f.adr' hid ρ),p∈news) (hco:(c,o)∈news)
  (hc:∀ q∈fv s.heap (f.adr' hid ρ),q.1<c) (hr:kx Γ (ρ++[c]) ao o) :
  At Γ f hid (ρ++[c]) l (h++[ao]) { s with heap:=h',toks:=tk } := by
 have y:=back h' tk news hin F' N'
 have p:ρ<+:ρ++[c]:=Oz.g28 _ _
 obtain⟨m,F,hl,hm⟩:=y.frm
 have hb:Γ.base.get? c=none:=(N' _ hco).2.2
 have ho:h'.get? c=some o:=(N' _ hco).1
 have hnew:∀ d∈f.adr hid ρ,d≠c:=fun d hd e=>by
  rw [Fm.adr_eq] at hd
  rcases Oz.g1.mp hd with hd' | hd'
  ·obtain⟨od,eo⟩:=x.there d (by rw [Fm.adr_eq]; exact hd)
   have:=hc _ (ch hd' eo)
   exact absurd this (e ▸ Nat.lt_irrefl _)
  ·have:=(N' _ hco).2.1
   rw [Oz.g9.mp hd'] at e
   exact this e.symm
 refine⟨y.sh,⟨m,F,hl,fun i z v a b=>?_⟩,y.cel,by simp [x.len],fun i ao' d a b=>?_,?_,?_,y.hidden,y.below⟩
 ·obtain⟨v',h1,h2⟩:=hm i z v a b
  exact⟨v',h1.mono p,h2⟩
 ·by_cases hi:i<h.length
  ·rw [Oz.g23 hi] at a
   rw [Oz.g23 (by rw [x.len]; exact hi)] at b
   obtain⟨o',h1,h2⟩:=y.obj i ao' d a b
   exact⟨o',h1,h2.mono p⟩
  ·have hi' : i=h.length:=by
    have:=(Oz.g4.mp a).1
    simp at this; exact Oz.o539 hi this
   subst hi'
   have e1:ao'=ao:=by simpa using a.symm
   have e2:d=c:=by rw [← x.len] at b; simpa using b.symm
   subst e1; subst e2
   exact⟨o,ho,hr⟩
 ·unfold Fm.adr
  rw [Oz.g19]
  have hn:=x.nodup
  unfold Fm.adr at hn hnew
  rw [Oz.g17] at hn ⊢
  refine⟨hn.1,?_,fun a ha b hb'=>?_⟩
  ·rw [List.singleton_append,Oz.g20]
   exact⟨fun hm=>hnew _ (Oz.g24 _ hm) rfl,hn.2.1⟩
  ·rcases Oz.g1.mp hb' with e | e
   ·rw [Oz.g9.mp e]; exact hnew a (Oz.g18 _ ha)
   ·exact hn.2.2 a ha b e
 ·intro d hd
  unfold Fm.adr at hd
  rw [Oz.g19,Oz.g1] at hd
  rcases hd with hd | hd
  ·exact x.fresh d (Oz.g18 _ hd)
  ·rcases Oz.g1.mp hd with hd | hd
   ·rw [Oz.g9.mp hd]; exact hb
   ·exact x.fresh d (Oz.g24 _ hd)
theorem md (t:At Γ f hid ρ l h s) (c:Addr):VR (ρ++[c]) (.ref h.length) (.ref c):=⟨c,by rw [← t.len]; simp,rfl⟩
theorem N7 (x:At Γ f hid ρ l h s){c:Addr}(hc:s.heap.objs.size≤c):∀ q∈fv s.heap (f.adr' hid ρ),q.1<c:=fun q hq=>by
 obtain⟨h1,h2⟩:=ey hq
 exact Oz.g27 (Heap.lt_size h2) hc
theorem VRs.bools {ρ:List Addr}:∀ {as:List AV}{vs:List Value}{bs:List Bool},VRs ρ as vs→gc as=some bs→vs=bs.map .bool
 | [],_,bs,.nil,e=>by simp only [gc,Option.some.injEq] at e; subst e; rfl
 | .bool i::r,_,bs,.cons a h,e=>by
  simp only [gc,Oz.g11] at e
  obtain⟨ms,e1,rfl⟩:=e
  cases a
  rw [h.bools e1]; rfl
 | .none::_,_,_,_,e=>by simp [gc] at e
 | .int _::_,_,_,_,e=>by simp [gc] at e
 | .str _::_,_,_,_,e=>by simp [gc] at e
 | .ref _::_,_,_,_,e=>by simp [gc] at e
theorem yz {ks:List Int}{vs:List Value}(hl:vs.length=(ks.map fun k=>(k,Value.bool true)).length) (hv:∀ (j:Nat) v,vs[j]?=some v→∃ k x,(ks.map fun k=>(k,Value.bool true))[j]?=some (k,x)∧(intKind Γ.prog Γ.w).is k v=true):IntsAre vs ks:=by
 refine kdy_ints (by simpa using hl) fun j v e=>?_
 refine Oz.z fun ζ η=>?_
 obtain⟨k,x,e1,e2⟩:=hv j v e
 obtain⟨t,rfl⟩:=Value.isInt_shape e2
 rw [Oz.g12,Oz.g11] at e1
 obtain⟨a,ea,eb⟩:=e1
 refine η ?_
 cases eb
 exact⟨_,ea,_,rfl⟩
theorem ub {args:List AV}{v:AV}(h:wv args=some v):args=[v]:=by
 cases args with
 | nil=>cases h
 | cons a r =>
  cases r with
  | nil=>cases h; rfl
  | cons _ _=>cases h
theorem B3 {args:List AV}{v w:AV}(h:C4 args=some (v,w)):args=[v,w]:=by
 cases args with
 | nil=>cases h
 | cons a r =>
  cases r with
  | nil=>cases h
  | cons b r =>
   cases r with
   | nil=>cases h; rfl
   | cons _ _=>cases h
theorem Jy {v:AV}{i:Nat}(h:Hh v=some i):v=.ref i:=by
 cases v with
 | ref j=>cases h; rfl
 | _=>cases h
theorem uf {v:AV}{i:Int}(h:xp v=some i):v=.int i:=by
 cases v with
 | int j=>cases h; rfl
 | _=>cases h
theorem Il {v:AV}{i:Bool}(h:Jc v=some i):v=.bool i:=by
 cases v with
 | bool j=>cases h; rfl
 | _=>cases h
theorem Hs {v:AO}{i:List AV}(h:iv v=some i):v=.list i:=by
 cases v with
 | list j=>cases h; rfl
 | _=>cases h
theorem Ie {v:AO}{i:List Int}(h:uh v=some i):v=.dict i:=by
 cases v with
 | dict j=>cases h; rfl
 | _=>cases h
theorem tw {args:List AV}{i:Nat}(h:Ab args=some i):args=[.ref i]:=by
 obtain⟨v,h1,h2⟩:=Oz.g22.mp h
 rw [ub h1,Jy h2]
theorem xq {args:List AV}{i:Int}(h:u4 args=some i):args=[.int i]:=by
 obtain⟨v,h1,h2⟩:=Oz.g22.mp h
 rw [ub h1,uf h2]
theorem Kn {args:List AV}{x y:Int}(h:Na args=some (x,y)):args=[.int x,.int y]:=by
 refine Oz.z fun ζ η=>?_
 obtain⟨⟨a,b⟩,h1,h2⟩:=Oz.g22.mp h
 obtain⟨u,h3,h4⟩:=Oz.g22.mp h2
 obtain⟨w,h5,h6⟩:=Oz.g11.mp h4
 refine η ?_
 cases h6
 rw [B3 h1,show a=_ from uf h3,show b=_ from uf h5]
set_option tactic.hygienic true in
theorem Lq {b:BF}{args:List AV}{vals:List Value}(t:At Γ f hid ρ l h s) (ok:CxOk Γ) (hsm:∃ o,Γ.base.get? sysModules=some o) (hh:b≠.int→f.A.handled=none) (va:VRs ρ args vals) (hb:b≠.listRange)
  (p:aw (fw b args h) (OKQ Γ f hid ρ l Q) ex):wpAny (model Γ.prog Γ.w) f.A (call (zn b) vals) Q E s:=by
 have one:∀ {i:Nat}{vals:List Value},VRs ρ [.ref i] vals→∃ c,ρ[i]?=some c∧vals=[.ref c]:=fun hv=>by
  cases hv with
  | cons a r=>cases r; obtain⟨c,hc,rfl⟩:=a; exact⟨c,hc,rfl⟩
 cases b with
 | len =>
  replace p:=bl p
  obtain⟨i,ei,p⟩:=p
  cases tw ei
  refine Oz.z fun ζ η=>?_
  obtain⟨c,hc,rfl⟩:=one va
  obtain⟨k,e0,p⟩:=bl p
  obtain⟨ao,e,ek⟩:=Oz.g22.mp e0
  refine η ?_
  cases ao with
  | list vs =>
   cases ek
   refine Oz.z fun ζ1 η1=>?_
   obtain⟨o,g,vs',n,rfl,hv,hz⟩:=t.obj i _ c e hc
   refine η1 ?_
   have hlen:=hv.length
   exact call_len_list (items:=vs'.toArray) ⟨_,g,rfl,n,rfl⟩ (by simp; exact Oz.o540 hz hlen) (p _ _ _ (Oz.g7 _) (t.toks _) ⟨_,by simp [hlen]; rfl⟩)
  | tup vs=>cases ek
  | dict ks =>
   cases ek
   obtain⟨o,g,r,hz⟩:=t.obj i _ c e hc
   exact call_len_dict (pu t ok hsm hc) (Heap.dictOf_iff.mpr ⟨o,g,r⟩) (by simp; exact Oz.o541 hz) (p _ _ _ (Oz.g7 _) (t.toks _) ⟨_,by simp; rfl⟩)
  | const vs =>
   cases ek
   refine Oz.z fun ζ2 η2=>?_
   obtain⟨o,g,vs',n,oc,od,hv,hz,_⟩:=t.obj i _ c e hc
   refine η2 ?_
   have hlen:=hv.length
   exact call_len_list (items:=vs'.toArray) ⟨_,g,oc,n,od⟩ (by simp; exact Oz.o540 hz hlen) (p _ _ _ (Oz.g7 _) (t.toks _) ⟨_,by simp [hlen]; rfl⟩)
  | _=>cases ek
 | list =>
  replace p:=bl p
  obtain⟨i,ei,p⟩:=p
  cases tw ei
  refine Oz.z fun ζ3 η3=>?_
  obtain⟨c,hc,rfl⟩:=one va
  obtain⟨us,e0,p⟩:=bl p
  obtain⟨ao,e,ek⟩:=Oz.g22.mp e0
  refine η3 ?_
  cases ao with
  | list vs =>
   cases ek
   refine Oz.z fun ζ4 η4=>?_
   obtain⟨o,g,vs',n,rfl,hv,hz⟩:=t.obj i _ c e hc
   refine η4 ?_
   have hlen:=hv.length
   refine call_list_seq c (.inl rfl) g rfl rfl (fun h' c' k ho=>?_) (by simp; exact Oz.g2 (Oz.o542 hz hlen) (show 200000≤sizeLine by decide))
   have pre:ρ<+:ρ++[s.heap.objs.size]:=Oz.g28 _ _
   exact p _ _ _ pre (t.alloc (by rw [t.sh]) k (Oz.g3 _) ho ⟨vs',c',rfl,hv.mono pre,hz⟩) (md t _)
  | dict ks =>
   cases ek
   refine Oz.z fun ζ5 η5=>?_
   obtain⟨o,g,r,hz⟩:=t.obj i _ c e hc
   obtain⟨m,F,N,back⟩:=t.led
   obtain⟨ep,hat⟩:=(Heap.dictOf_iff.mpr ⟨o,g,r⟩:s.heap.DictOf _ c _).dictAt
   refine η5 ?_
   refine kdl_N (kdl_dict (ep:=ep) (pu t ok hsm hc)) (hh nofun) F N hat (by simp; exact Oz.g2 hz (by decide)) fun B n h' tk vs F' N' l1 hl hv=>?_
   have pre:ρ<+:ρ++[B]:=Oz.g28 _ _
   exact p _ _ _ pre (t.allocL back F' N' (fun q hq=>.tail _ hq) (.head _) l1 ⟨vs,n,rfl,VRs.of_ints (yz (Γ:=Γ) hl hv),by simpa using hz⟩) (md t _)
  | _=>cases ek
 | listRange=>exact absurd rfl hb
 | sorted =>
  replace p:=bl p
  obtain⟨i,ei,p⟩:=p
  cases tw ei
  refine Oz.z fun ζ6 η6=>?_
  obtain⟨c,hc,rfl⟩:=one va
  obtain⟨us,e0,p⟩:=bl p
  obtain⟨ao,e,ek⟩:=Oz.g22.mp e0
  refine η6 ?_
  cases ao with
  | list vs =>
   obtain⟨ns,en,ek1⟩:=Oz.g22.mp ek
   obtain⟨hz,ek2⟩:=Cq ek1
   cases ek2
   ··refine Oz.z fun ζ7 η7=>?_
     obtain⟨o,g,r⟩:=t.obj i _ c e hc
     obtain⟨vs',l1,v1⟩:=ci g r
     have hI:=v1.ints en
     have hlen:=hI.length
     obtain⟨m,F,N,back⟩:=t.led
     refine η7 ?_
     refine sorted_N F N l1 hI (Oz.o543 hz hlen) fun h' vs2 ns2 n F' N' a1 a2 a3=>?_
     have pre:ρ<+:ρ++[s.heap.objs.size+1]:=Oz.g28 _ _
     refine p _ _ _ pre (t.allocL back F' N' (fun q hq=>.tail _ hq) (.head _) (N7 t (Nat.le_succ _)) ⟨vs2,n,rfl,?_,?_⟩) (md t _)
     ·rw [← ut a2 a3]; exact VRs.of_ints a1
     ·rw [Oz.g13,rm]; exact Oz.o544 hz
  | dict ks =>
   obtain⟨hz,ek2⟩:=Cq ek
   cases ek2
   ·refine Oz.z fun ζ8 η8=>?_
    obtain⟨o,g,r,hz'⟩:=t.obj i _ c e hc
    obtain⟨m,F,N,back⟩:=t.led
    obtain⟨ep,hat⟩:=(Heap.dictOf_iff.mpr ⟨o,g,r⟩:s.heap.DictOf _ c _).dictAt
    refine η8 ?_
    refine kdu_sorted (kdl_dict (ep:=ep) (pu t ok hsm hc)) (hh nofun) F N hat (by simp; exact Oz.g2 hz' (by decide)) fun B h' tk vs F' N' l1 hl hv=>?_
    have hI:=yz (Γ:=Γ) hl hv
    refine ksk_lsort (its:=vs.toArray) (n:=0) (news' := fun o'=>(B,o')::fv s.heap (f.adr' hid ρ)) F' N' (fun o'=>.head fun q hq=>Nat.ne_of_lt (l1 q hq)) (by simp) hI hz fun vs2 ns2 n h2 F2 N2 a1 ζ a2 a3 ζ=>?_
    have pre:ρ<+:ρ++[B]:=Oz.g28 _ _
    refine p _ _ _ pre (t.allocL back F2 N2 (fun q hq=>.tail _ hq) (.head _) l1 ⟨vs2,n,rfl,?_,?_⟩) (md t _)
    ·rw [← ut a2 a3]; exact VRs.of_ints a1
    ·rw [Oz.g13,rm]; exact Oz.o545 hz'
  | _=>cases ek
 | int =>
  replace p:=bl p
  refine Oz.z fun ζ9 η9=>?_
  obtain⟨bb,ei,p⟩:=p
  obtain⟨v0,e1,e2⟩:=Oz.g22.mp ei
  refine η9 ?_
  cases Il e2
  cases ub e1
  cases va with
  | cons a r =>
   cases r; cases a
   exact call_int_bool (p _ _ _ (Oz.g7 _) (t.toks _) ⟨_,rfl⟩)
 | min =>
  replace p:=bl p
  obtain⟨⟨x,y⟩,ei,p⟩:=p
  cases Kn ei
  cases va with
  | cons a r =>
   cases r with
   | cons b r =>
    cases r
    refine Oz.z fun ζ10 η10=>?_
    obtain⟨u1,rfl⟩:=a
    obtain⟨u2,rfl⟩:=b
    refine η10 ?_
    refine min_two_ints (hh nofun) fun h' tk k=>p _ _ _ (Oz.g7 _) (t.grow (by rw [t.sh]) k) ?_
    split <;> exact⟨_,rfl⟩
 | max=>exact(show False from p).elim
 | max1=>exact(show False from p).elim
 | all =>
  replace p:=bl p
  obtain⟨i,ei,p⟩:=p
  cases tw ei
  obtain⟨c,hc,rfl⟩:=one va
  split at p
  ·rename_i vs e
   split at p
   ·rename_i bs eb
    refine Oz.z fun ζ11 η11=>?_
    obtain⟨o,g,r⟩:=t.obj i _ c e hc
    obtain⟨vs',l1,v1⟩:=ci g r
    refine η11 ?_
    have hvs:=v1.bools eb
    have hlt:c<s.heap.objs.size:=Heap.lt_size g
    refine call_all_walk (wpAny_pyIter_list l1 ⟨_,_,_,_,_,_,fun k=>(bs[k]?).getD false,rfl,Walks.list (A:=f.A.in1) (show f.A.in1.handled=none from(hh nofun)) s.heap.objs.size c (Nat.ne_of_lt hlt) vs'.toArray,⟨⟨_,Heap.get?_push_size _ rfl,rfl,rfl⟩,l1.at fun o e=>Heap.get?_push_of_some _ e⟩,?_,?_⟩)
    ·intro k v s' Q' E' hP hQ
     subst hvs
     simp only [List.getElem?_toArray,Oz.g12,Oz.g11] at hP
     obtain⟨b,e1,rfl⟩:=hP
     simp only [e1,Option.getD_some] at hQ
     exact wpAny_truthy_bool hQ
    ·intro h' tk k
     have keep:∀ b o,s.heap.get? b=some o→h'.get? b=some o:=fun b o e=>k b o (fun hm=>by
      rw [Oz.g9.mp hm] at e; exact absurd (Heap.lt_size e) (Nat.lt_irrefl _)) (Heap.get?_push_of_some _ e)
     have q:(List.range vs'.toArray.size).all (fun k=>(bs[k]?).getD false)=bs.all id:=by
      subst hvs
      simp only [List.size_toArray,Oz.g13]
      rw [Bool.eq_iff_iff]
      simp only [List.all_eq_true,List.mem_range,id]
      constructor
      ·intro hb x hx
       obtain⟨j,hj,rfl⟩:=List.mem_iff_getElem.mp hx
       have:=hb j hj
       simpa [Oz.g10 hj] using this
      ·intro hb j hj
       simpa [Oz.g10 hj] using hb _ (List.getElem_mem hj)
     rw [q]
     exact p _ _ _ (Oz.g7 _) (t.grow (by rw [t.sh]) keep) rfl
   ·exact p.elim
  ·exact p.elim
end
end Sk
namespace Sk
open PySem PySem.Calls PySem.W PyProof.Rows PySem.Spec
noncomputable def Bn:BM→Str
 | .append => "append" | .insert => "insert" | .popAt => "pop" | .index => "index" | .clear => "clear" | .dpop => "pop"
noncomputable def Np:BM→String
 | .append => "list.append" | .insert => "list.insert" | .popAt => "list.pop" | .index => "list.index" | .clear => "list.clear" | .dpop => "dict.pop"
theorem Nm {vs:List Value}{k:Nat}{y:Value}(e:vs[k]?=some y):kl_cut vs k=some (vs.take k,y,vs.drop (k+1)):=by
 induction vs generalizing k with
 | nil=>simp at e
 | cons a r ih =>
  cases k with
  | zero=>simp at e; subst e; rfl
  | succ k=>simp at e; simp [kl_cut,ih e]
section
variable {Γ:Cx}{f:Fm}{hid:List (Addr×Obj)}{ρ:List Addr}{l:LOC}{h:HP}{s:Shared}{E:Value→Shared→Prop}{Q:Value→Shared→Prop}{ex:Nat→HP→Prop}
theorem Em {m:BM}{x:AV}{x' : Value}{pl:Sem Bool}{Q:Value×List Value→Shared→Prop}(t:At Γ f hid ρ l h s) (vx:VR ρ x x') (hk:dz m x h=true) (hq:Q (.builtin (Np m),[x']) s) :
  wpAny (model Γ.prog Γ.w) f.A (getMethod x' (Bn m) pl) Q E s:=by
 cases x with
 | ref i =>
  obtain⟨c,hc,rfl⟩:=vx
  have lst:∀ {vs:List AV}{name:Str}{id:String},h[i]?=some (.list vs)→Slot "list" name id→typeOf (.builtin id)=pure (.type "method_descriptor")→Q (.builtin id,[.ref c]) s→wpAny (model Γ.prog Γ.w) f.A (getMethod (.ref c) name pl) Q E s:=by
   intro vs name id e slot hty hq
   refine Oz.z fun ζ η=>?_
   obtain⟨o,g,vs',n,rfl,hv,hz⟩:=t.obj i _ c e hc
   refine η ?_
   exact getMethod_builtin ⟨_,g,rfl⟩ PySem.F.plainAttrs_list slot hty (fun a e=>by cases e; exact⟨_,g,rfl⟩) hq
  have key:(m=.dpop∧∃ ks,h[i]?=some (.dict ks))∨(m≠.dpop∧∃ vs,h[i]?=some (.list vs)):=by
   unfold dz at hk
   dsimp only at hk
   cases q:h[i]? with
   | none=>rw [q] at hk; cases m <;> cases hk
   | some o =>
    rw [q] at hk
    cases o with
    | list vs=>exact .inr ⟨fun e=>(by subst e; cases hk),vs,rfl⟩
    | dict ks=>exact .inl ⟨(by cases m <;> first | rfl | cases hk),ks,rfl⟩
    | _=>cases m <;> cases hk
  rcases key with ⟨rfl,ks,e⟩ | ⟨hm,vs,e⟩
  ·refine Oz.z fun ζ1 η1=>?_
   obtain⟨o,g,r,hz⟩:=t.obj i _ c e hc
   obtain⟨es,ep,hx,hd,_⟩:=r
   refine η1 ?_
   exact getMethod_builtin (id := "dict.pop") ⟨_,g,hx.1⟩ PySem.F.plainAttrs_dict PySem.F.slot_dict_pop PySem.F.type_dict_pop (fun a e=>by cases e; exact⟨_,g,hx.2.1⟩) hq
  ·cases m with
   | append=>exact lst e PySem.F.slot_list_append PySem.F.type_list_append hq
   | insert=>exact lst e PySem.F.slot_list_insert PySem.F.type_list_insert hq
   | popAt=>exact lst e PySem.F.slot_list_pop PySem.F.type_list_pop hq
   | index=>exact lst e PySem.F.slot_list_index PySem.F.type_list_index hq
   | clear=>exact lst e PySem.F.slot_list_clear PySem.F.type_list_clear hq
   | dpop=>exact absurd rfl hm
 | _=>cases hk
theorem wm (ks:List Int) (k:Int):without (ks.map fun k=>(k,Value.bool true)) k=(ks.filter fun x=>decide (x≠k)).map fun k=>(k,Value.bool true):=by
 unfold without
 rw [List.filter_map]
 rfl
theorem zq {ks:List Int}{k:Int}(h:k∈ks):valueAt (ks.map fun k=>(k,Value.bool true)) k=some (.bool true):=by
 have h1:=kh ks k
 rw [decide_eq_true h] at h1
 obtain⟨v,hv⟩:=Option.isSome_iff_exists.mp h1
 rw [hv]
 unfold valueAt at hv
 refine Oz.z fun ζ η=>?_
 obtain⟨p,e1,e2⟩:=Oz.g11.mp hv
 obtain⟨a,_,rfl⟩:=Oz.g8.mp (List.mem_of_find?_eq_some e1)
 refine η ?_
 rw [← e2]
set_option tactic.hygienic true in
theorem Lp {m:BM}{x:AV}{x' : Value}{args:List AV}{vals:List Value}(t:At Γ f hid ρ l h s) (vx:VR ρ x x') (va:VRs ρ args vals)
  (p:aw (tg m x args h) (OKQ Γ f hid ρ l Q) ex):wpAny (model Γ.prog Γ.w) f.A (call (.builtin (Np m)) (x'::vals)) Q E s:=by
 cases x with
 | ref i =>
  obtain⟨c,hc,rfl⟩:=vx
  replace p:aw (match m with
   | .append=>((h[i]?).bind iv).elim .err fun vs=>(wv args).elim .err fun v=>if cb vs.length then R.ok AV.none (h.set i (.list (vs++[v]))) else .err
   | .insert=>((h[i]?).bind iv).elim .err fun vs=>(C4 args).elim .err fun p=>(xp p.1).elim .err fun k=>if (0≤k∧k≤vs.length)∧cb vs.length then .ok .none (h.set i (.list (vs.take k.toNat++p.2::vs.drop k.toNat))) else .err
   | .popAt=>((h[i]?).bind iv).elim .err fun vs=>(u4 args).elim .err fun k=>if 0≤k∧k<vs.length then (match vs[k.toNat]? with
     | some v=>.ok v (h.set i (.list (vs.eraseIdx k.toNat)))
     | Option.none=>.err) else .err
   | .index=>((h[i]?).bind iv).elim .err fun vs=>(u4 args).elim .err fun n=>match f7 vs with
     | some ns=>if n∈ns then .ok (.int (ns.idxOf n:Nat)) h else .err
     | Option.none=>.err
   | .clear=>.err
   | .dpop=>((h[i]?).bind uh).elim .err fun ks=>(u4 args).elim .err fun k=>if k∈ks then .ok (.bool true) (h.set i (.dict (ks.filter fun x=>decide (x≠k)))) else .err) (OKQ Γ f hid ρ l Q) ex:=p
  have lo:∀ {vs:List AV},(h[i]?).bind iv=some vs→h[i]?=some (.list vs):=fun q=>by
   obtain⟨o,e1,e2⟩:=Oz.g22.mp q
   rw [e1,Hs e2]
  have dO:∀ {vs:List Int},(h[i]?).bind uh=some vs→h[i]?=some (.dict vs):=fun q=>by
   obtain⟨o,e1,e2⟩:=Oz.g22.mp q
   rw [e1,Ie e2]
  cases m with
  | append =>
   replace p:=bl p
   obtain⟨vs,e,p⟩:=p
   replace e:=lo e
   replace p:=bl p
   obtain⟨v,ev,p⟩:=p
   cases ub ev
   split at p
   ·rename_i hz
    cases va with
    | cons a r =>
     cases r
     obtain⟨o,g,vs',n,rfl,hv,hz'⟩:=t.obj i _ c e hc
     obtain⟨mm,F,N,back⟩:=t.ledPut hc
     obtain⟨news',U,hin1,hin2⟩:=pf (listOf (vs'.toArray.push _) (n+1)) (gj (hp:=s.heap) t.adrNd) (ch (t.inAdr hc) g)
     have hz:=of_decide_eq_true hz
     have hlen:=hv.length
     refine append_K F N U (fun h' F' N'=>p _ _ _ (Oz.g7 _) (back h' s.toks news' _ _ hin2 hin1 F' N' ⟨vs'++[_],n+1,by simp,hv.append (.cons a .nil),?_⟩) rfl) (by simp; exact Oz.g2 (Oz.o593 hz hlen) (show 200000≤sizeLine by decide))
     simp; exact Oz.o594 hz
   ·exact p.elim
  | insert =>
   replace p:=bl p
   obtain⟨vs,e,p⟩:=p
   replace e:=lo e
   replace p:=bl p
   obtain⟨⟨w0,v⟩,ev,p⟩:=p
   replace p:=bl p
   obtain⟨k,ek,p⟩:=p
   cases (show w0=.int k from uf ek)
   cases B3 ev
   split at p
   ·rename_i hz
    cases va with
    | cons a r =>
     cases r with
     | cons b r =>
      cases r
      obtain⟨u,rfl⟩:=a
      obtain⟨o,g,vs',n,rfl,hv,hz'⟩:=t.obj i _ c e hc
      obtain⟨mm,F,N,back⟩:=t.ledPut hc
      rename_i v'
      obtain⟨news',U,hin1,hin2⟩:=pf (listOf (vs'.take k.toNat++v'::vs'.drop k.toNat).toArray (n+1)) (gj (hp:=s.heap) t.adrNd) (ch (t.inAdr hc) g)
      obtain⟨⟨h0,h1⟩,hz⟩:=hz
      have hz:=of_decide_eq_true hz
      have hlen:=hv.length
      have ek:(if k<0 then (k+(vs'.length:Int)).toNat else min k.toNat vs'.length)=k.toNat:=by
       rw [if_neg (by exact Oz.o595 h0)]; exact Oz.o596 h1 hlen
      refine kl_insert (x:=k) F N (by unfold Builtin.List.listFitsIndex; simp; exact Oz.o597 h0 h1 hz) (by simp only [kl_ins,ek]) U (by simp; exact Oz.g2 (by exact Oz.o593 hz hlen) (show 200000≤sizeLine by decide))
       fun h' F' N'=>p _ _ _ (Oz.g7 _) (back h' s.toks news' _ _ hin2 hin1 F' N' ⟨_,n+1,rfl,(hv.take _).append (.cons b (hv.drop _)),?_⟩) rfl
      simp; exact Oz.o598 hz
   ·exact p.elim
  | popAt =>
   replace p:=bl p
   obtain⟨vs,e,p⟩:=p
   replace e:=lo e
   replace p:=bl p
   obtain⟨k,ev,p⟩:=p
   cases xq ev
   split at p
   ·rename_i hk
    split at p
    ·rename_i v ev
     cases va with
     | cons a r =>
      cases r
      obtain⟨u,rfl⟩:=a
      obtain⟨o,g,vs',n,rfl,hv,hz'⟩:=t.obj i _ c e hc
      obtain⟨mm,F,N,back⟩:=t.ledPut hc
      obtain⟨v',e1,e2⟩:=hv.get ev
      obtain⟨news',U,hin1,hin2⟩:=pf (listOf (vs'.take k.toNat++vs'.drop (k.toNat+1)).toArray (n+1)) (gj (hp:=s.heap) t.adrNd) (ch (t.inAdr hc) g)
      have hlen:=hv.length
      refine kl_popAt (i:=k) (k:=k.toNat) F N (by unfold Builtin.List.listFitsIndex; simp; exact Oz.o599 hk.1 hk.2 hz') ?_ (by simpa using Nm e1) U (by simp; exact Oz.g2 (by exact Oz.o542 hz' hlen) (show 200000≤sizeLine by decide))
       fun h' F' N'=>p _ _ _ (Oz.g7 _) (back h' s.toks news' _ _ hin2 hin1 F' N' ⟨_,n+1,rfl,?_,?_⟩) e2
      ·unfold seqIndex?
       simp only [List.size_toArray]
       rw [if_neg (show ¬ k<0 by exact Oz.o595 hk.1),if_pos (by simp; exact Oz.o600 hk.1 hk.2 hlen)]
      ·rw [List.eraseIdx_eq_take_drop_succ]; exact(hv.take _).append (hv.drop _)
      ·have:=List.length_eraseIdx_le vs k.toNat
       exact Oz.o601 hz' this
    ·exact p.elim
   ·exact p.elim
  | index =>
   replace p:=bl p
   obtain⟨vs,e,p⟩:=p
   replace e:=lo e
   replace p:=bl p
   obtain⟨k,ev,p⟩:=p
   cases xq ev
   split at p
   ·rename_i ns en
    split at p
    ·rename_i hk
     cases va with
     | cons a r =>
      cases r
      obtain⟨u,rfl⟩:=a
      obtain⟨o,g,vs',n,rfl,hv,hz'⟩:=t.obj i _ c e hc
      have hi:=hv.ints en
      have hlen:=hi.length
      have hlen2:=hv.length
      have hj:ns.idxOf k<ns.length:=List.idxOf_lt_length_iff.mpr hk
      refine call_meets PySem.F.slot_list_index ⟨_,g,rfl⟩ PySem.F.entry_list_index (PySem.F.args_list_index_2 _ _)
       (SeqAt.list_indexAt c vs'.toArray n none #[] (.int k u) (isInt k) (ns.idxOf k) (by simpa [hlen] using hj) (Oz.o602 hz' hlen hlen2 hj) ?_ ?_) ⟨g,fun y hy=>(eq_isInt k u hi y (by simpa using hy)).at _ _,p _ _ _ (Oz.g7 _) (t.toks _) ⟨_,rfl⟩⟩
      ·show isInt k vs'[ns.idxOf k]=true
       rw [isInt_at k hi _ (Oz.o406 hlen hj) hj]
       simpa using List.getElem_idxOf hj
      ·intro j hjs hlt
       show isInt k vs'[j]=false
       rw [isInt_at k hi j (by simpa using hjs) (Oz.o401 hj hlt)]
       exact ne_of_lt_idxOf hlt _
    ·exact p.elim
   ·exact p.elim
  | clear=>exact(show False from p).elim
  | dpop =>
   replace p:=bl p
   obtain⟨ks,e,p⟩:=p
   replace e:=dO e
   replace p:=bl p
   obtain⟨k,ev,p⟩:=p
   cases xq ev
   split at p
   ·rename_i hk
    cases va with
    | cons a r =>
     cases r
     obtain⟨u,rfl⟩:=a
     obtain⟨o,g,r,hz⟩:=t.obj i _ c e hc
     have hD:s.heap.DictOf (intKind Γ.prog Γ.w) c _:=Heap.dictOf_iff.mpr ⟨o,g,r⟩
     refine call_meetsIn PySem.F.slot_dict_pop hD.typeIs PySem.F.entry_dict_pop (PySem.F.args_dict_pop_2 _ _) (meets_dict_pop_there (intKind Γ.prog Γ.w) c (intKind_is _ _ k u) [] (.inl rfl) rfl)
      ⟨_,_,hD,by simp; exact Oz.g2 hz (by decide),zq hk,fun h' hm hs=>p _ _ _ (Oz.g7 _) ?_ rfl⟩
     obtain⟨o',g',r'⟩:=Heap.dictOf_iff.mp hm
     refine t.put (by rw [t.sh]) hc (fun b ob hb e=>(hs.2 b hb).trans e) g' ⟨by rw [wm] at r'; exact r',?_⟩
     exact Oz.g2 (List.length_filter_le _ _) hz
   ·exact p.elim
 | _=>exact p.elim
theorem j0 {sub:Nat→Nat→Bool}{ty:TY}{i:Nat}{h:HP}{A:AV→HP→Prop}{B:Nat→HP→Prop}(p:aw (ja sub ty (.ref i) h) A B):aw ((h[i]?).elim .err (sg sub h ty)) A B:=by cases ty <;> exact p
theorem Da {sub:Nat→Nat→Bool}{ty:TY}{x:AV}{x' : Value}(t:At Γ f hid ρ l h s) (vx:VR ρ x x') (T:String) (hT:T = "int" ∧ ty=.int∨T = "bool" ∧ ty=.bool∨T = "list" ∧ ty=.list∨T = "tuple" ∧ ty=.tup)
  (p:aw (ja sub ty x h) (OKQ Γ f hid ρ l Q) ex):wpAny (model Γ.prog Γ.w) f.A (call (.builtin "isinstance") [x',.type T]) Q E s:=by
 have ref:∀ {i:Nat},aw (ja sub ty (.ref i) h) (OKQ Γ f hid ρ l Q) ex→(∃ vs,h[i]?=some (.list vs)∧ty=.list∧OKQ Γ f hid ρ l Q (.bool true) h)∨(∃ vs,h[i]?=some (.tup vs)∧ty=.tup∧OKQ Γ f hid ρ l Q (.bool true) h)∨(ty≠.int∧ty≠.bool∧ty≠.list∧ty≠.tup):=by
  intro i p
  have p:aw ((h[i]?).elim .err (sg sub h ty)) (OKQ Γ f hid ρ l Q) ex:=p
  cases q:h[i]? with
  | none=>rw [q] at p; exact p.elim
  | some o =>
   rw [q] at p
   cases o with
   | list vs=>cases ty <;> first | exact p.elim | exact .inl ⟨vs,rfl,rfl,p⟩
   | tup vs=>cases ty <;> first | exact p.elim | exact .inr (.inl ⟨vs,rfl,rfl,p⟩)
   | exc c=>cases ty <;> first | exact p.elim | exact .inr (.inr ⟨nofun,nofun,nofun,nofun⟩)
   | _=>cases ty <;> exact p.elim
 cases x with
 | int i =>
  obtain⟨u,rfl⟩:=vx
  rcases hT with ⟨rfl,rfl⟩ | ⟨rfl,rfl⟩ | ⟨rfl,rfl⟩ | ⟨rfl,rfl⟩
  ·exact PySem.IsiPair.int_int (p _ _ _ (Oz.g7 _) t rfl)
  ·exact PySem.IsiPair.int_bool (p _ _ _ (Oz.g7 _) (t.toks _) rfl)
  ·exact p.elim
  ·exact p.elim
 | bool b =>
  cases vx
  rcases hT with ⟨rfl,rfl⟩ | ⟨rfl,rfl⟩ | ⟨rfl,rfl⟩ | ⟨rfl,rfl⟩
  ·exact p.elim
  ·exact PySem.IsiPair.bool_bool (p _ _ _ (Oz.g7 _) t rfl)
  ·exact p.elim
  ·exact p.elim
 | ref i =>
  obtain⟨c,hc,rfl⟩:=vx
  rcases ref p with ⟨vs,e,rfl,p'⟩ | ⟨vs,e,rfl,p'⟩ | ⟨n1,n2,n3,n4⟩
  ·refine Oz.z fun ζ η=>?_
   obtain⟨o,g,vs',n,rfl,hv,hz'⟩:=t.obj i _ c e hc
   refine η ?_
   rcases hT with ⟨_,z⟩ | ⟨_,z⟩ | ⟨rfl,_⟩ | ⟨_,z⟩
   ·cases z
   ·cases z
   ·exact PySem.IsiPair.list_list g rfl (p' _ _ _ (Oz.g7 _) t rfl)
   ·cases z
  ·refine Oz.z fun ζ1 η1=>?_
   obtain⟨o,g,vs',n,rfl,hv,hz'⟩:=t.obj i _ c e hc
   refine η1 ?_
   rcases hT with ⟨_,z⟩ | ⟨_,z⟩ | ⟨_,z⟩ | ⟨rfl,_⟩
   ·cases z
   ·cases z
   ·cases z
   ·exact PySem.IsiPair.tuple_tuple g rfl (p' _ _ _ (Oz.g7 _) t rfl)
  ·rcases hT with ⟨_,z⟩ | ⟨_,z⟩ | ⟨_,z⟩ | ⟨_,z⟩
   ·exact absurd z n1
   ·exact absurd z n2
   ·exact absurd z n3
   ·exact absurd z n4
 | none=>exact p.elim
 | str _=>exact p.elim
end
end Sk
namespace Sk
open PySem PySem.Calls PySem.W PyProof.Rows PySem.Spec
structure Sc where
 names:List (Str×NameKind)
 slots:List (Option Str)
 calm:Bool
noncomputable def glb (sc:Sc) (x:Str):Bool:=sc.names.lookup x == some .globalImplicit&&(x == ("__debug__" : Str)) == false
noncomputable def j6:Expr→Bool
 | .Name ..=>true | .Attribute ..=>true | .Subscript ..=>true | _=>false
noncomputable def tn:BF→Str
 | .len => "len" | .list => "list" | .listRange => "list" | .sorted => "sorted" | .int => "int" | .min => "min" | .max => "max" | .max1 => "max" | .all => "all"
noncomputable def D6 (tx:Tx):TY→Option Str
 | .int=>some "int" | .bool=>some "bool" | .list=>some "list" | .tup=>some "tuple" | .valueError=>some "ValueError" | .own c=>tx.clsName c
noncomputable def fo (sc:Sc) (names:List (Str×NameKind)):List (Str×NameKind) :=
 names.map fun(n,k)=>if k == .free&&true&&sc.names.lookup n == some .cell then (n,.cell) else (n,k)
noncomputable def c7 (sc:Sc) (x:Str) (names:List (Str×NameKind)):Sc :=
 ⟨fo sc names,sc.slots.map (fun o=>o.filter fun y=>(fo sc names).lookup y == some .cell)++[some x],sc.calm⟩
noncomputable def sw (sc:Sc) (x:Str) (scope:Scope):Bool :=
 scope.kind == .function&&scope.names.lookup x == some .local&&(scope.names.all fun p=>p.2 != .cell&&(p.2 != .local||scope.names.lookup p.1 == some .local)&&(p.2 != .free||sc.names.lookup p.1 == some .cell))&&((scope.names.map (·.1)).Nodup:Bool)
theorem any_some {α:Type}{o:Option α}{f:α→Bool}(h:o.any f=true):∃ a,o=some a∧f a=true:=by
 cases o with
 | none=>cases h
 | some a=>exact⟨a,rfl,h⟩
theorem br {α:Type}{a:α}{C:Prop}(h:(Option.none:Option α)=some a):C:=nomatch h
theorem ba {C:Prop}(h:false=true):C:=nomatch h
noncomputable def A3:CE→Bool | .none=>true | _=>false
noncomputable def Mv:CE→Bool | .bool b=>b | _=>false
noncomputable def Mx:BF→Bool | .listRange=>true | _=>false
noncomputable def My:BF→Bool | .int=>true | _=>false
theorem dk {c:Prop} [Decidable c] {α:Type}{f:c→α}{a:α}(h:(if h:c then some (f h) else Option.none)=some a):∃ h,f h=a:=by
 by_cases q:c
 ·rw [dif_pos q] at h; exact⟨q,Option.some.inj h⟩
 ·rw [dif_neg q] at h; cases h
noncomputable def cst (e:Expr):Option (Const×Nat×Pos):=if h:e.ctorIdx=19 then some (Expr.Constant.elim e h fun c i p=>(c,i,p)) else Option.none
noncomputable def nmE (e:Expr):Option (Str×Pos):=if h:e.ctorIdx=23 then some (Expr.Name.elim e h fun x p=>(x,p)) else Option.none
noncomputable def bO (e:Expr):Option (Expr×Operator×Expr×Pos):=if h:e.ctorIdx=2 then some (Expr.BinOp.elim e h fun l o r p=>(l,o,r,p)) else Option.none
noncomputable def uO (e:Expr):Option (UnaryOp×Expr×Pos):=if h:e.ctorIdx=3 then some (Expr.UnaryOp.elim e h fun o x p=>(o,x,p)) else Option.none
noncomputable def lO (e:Expr):Option (BoolOp×List Expr×Pos):=if h:e.ctorIdx=0 then some (Expr.BoolOp.elim e h fun o x p=>(o,x,p)) else Option.none
noncomputable def aT (e:Expr):Option (Expr×Str×Pos):=if h:e.ctorIdx=20 then some (Expr.Attribute.elim e h fun o x p=>(o,x,p)) else Option.none
noncomputable def sB (e:Expr):Option (Expr×Expr×Pos):=if h:e.ctorIdx=21 then some (Expr.Subscript.elim e h fun o x p=>(o,x,p)) else Option.none
noncomputable def liE (e:Expr):Option (List Expr×Pos):=if h:e.ctorIdx=24 then some (Expr.List.elim e h fun l p=>(l,p)) else Option.none
noncomputable def tuE (e:Expr):Option (List Expr×Nat×Pos):=if h:e.ctorIdx=25 then some (Expr.Tuple.elim e h fun l c p=>(l,c,p)) else Option.none
noncomputable def diE (e:Expr):Option (List (Option Expr)×List Expr×Pos):=if h:e.ctorIdx=6 then some (Expr.Dict.elim e h fun l c p=>(l,c,p)) else Option.none
noncomputable def cmE (e:Expr):Option (Expr×List CmpOp×List Expr×Pos):=if h:e.ctorIdx=15 then some (Expr.Compare.elim e h fun l c r p=>(l,c,r,p)) else Option.none
noncomputable def clE (e:Expr):Option (Expr×List Expr×List Keyword×Pos):=if h:e.ctorIdx=16 then some (Expr.Call.elim e h fun f a k p=>(f,a,k,p)) else Option.none
noncomputable def lcE (e:Expr):Option (Expr×List Comprehension×Scope×Pos):=if h:e.ctorIdx=8 then some (Expr.ListComp.elim e h fun f a k p=>(f,a,k,p)) else Option.none
noncomputable def cIn:Const→Option Int | .int i=>some i | _=>Option.none
noncomputable def kk:Const→Option Bool→Bool
 | .none,c=>c.isNone
 | .bool b,c=>c.any (b == ·)
 | _,_=>false
noncomputable def on1 {α:Type}:List α→Option α | [e]=>some e | _=>Option.none
noncomputable def on2 {α:Type}:List α→Option (α×α) | [e,d]=>some (e,d) | _=>Option.none
noncomputable def if1:List Expr→Option (Option Expr) | []=>some Option.none | [c]=>some (some c) | _=>Option.none
noncomputable def is1 (e:Expr):Option (Expr×CmpOp×Expr×Pos):=(cmE e).bind fun y=>(on1 y.2.1).bind fun o=>(on1 y.2.2.1).map fun r=>(y.1,o,r,y.2.2.2)
noncomputable def is2 (e:Expr):Option (Expr×(CmpOp×CmpOp)×(Expr×Expr)×Pos):=(cmE e).bind fun y=>(on2 y.2.1).bind fun o=>(on2 y.2.2.1).map fun r=>(y.1,o,r,y.2.2.2)
noncomputable def caN (e:Expr):Option (Str×Pos×List Expr×Pos):=(clE e).bind fun y=>if y.2.2.1.isEmpty then (nmE y.1).map fun x=>(x.1,x.2,y.2.1,y.2.2.2) else Option.none
noncomputable def caA (e:Expr):Option ((Expr×Str×Pos)×List Expr×Pos):=(clE e).bind fun y=>if y.2.2.1.isEmpty then (aT y.1).map fun x=>(x,y.2.1,y.2.2.2) else Option.none
noncomputable def spB (o:BoolOp) (e:Expr):Option (Expr×Expr):=(lO e).bind fun y=>if y.1=o then (match y.2.1 with
 | e₁::e₂::r=>some (e₁,if r.isEmpty then e₂ else .BoolOp o (e₂::r) y.2.2)
 | _=>Option.none) else Option.none
noncomputable def Mw (e:Expr):Option (Option Expr×Option Expr×Option Expr×Pos):=if h:e.ctorIdx=26 then some (Expr.Slice.elim e h fun l u t p=>(l,u,t,p)) else Option.none
noncomputable def Mz:List Comprehension→Option (Str×Pos×Expr×List Expr)
 | [c]=>if c.is_async=0 then (nmE c.target).map fun x=>(x.1,x.2,c.iter,c.ifs) else Option.none
 | _=>Option.none
theorem mh {e:Expr}{c:Const}{i:Nat}{p:Pos}(h:cst e=some (c,i,p)):e=.Constant c i p:=by
 refine Oz.z fun ζ η=>?_
 obtain⟨q,h⟩:=dk h
 obtain⟨w0,w1,w2,rfl⟩:=Expr.Constant.elim (motive_1:=fun e=>Oz.E3 fun w0 w1 w2=>e=.Constant w0 w1 w2) e q fun w0 w1 w2=>⟨w0,w1,w2,rfl⟩
 refine η ?_
 cases h; rfl
theorem jz {e:Expr}{x:Str}{p:Pos}(h:nmE e=some (x,p)):e=.Name x p:=by
 refine Oz.z fun ζ η=>?_
 obtain⟨q,h⟩:=dk h
 obtain⟨w0,w1,rfl⟩:=Expr.Name.elim (motive_1:=fun e=>Oz.E2 fun w0 w1=>e=.Name w0 w1) e q fun w0 w1=>⟨w0,w1,rfl⟩
 refine η ?_
 cases h; rfl
theorem Je {e:Expr}{l r:Expr}{o:Operator}{p:Pos}(h:bO e=some (l,o,r,p)):e=.BinOp l o r p:=by
 refine Oz.z fun ζ η=>?_
 obtain⟨q,h⟩:=dk h
 obtain⟨w0,w1,w2,w3,rfl⟩:=Expr.BinOp.elim (motive_1:=fun e=>Oz.E4 fun w0 w1 w2 w3=>e=.BinOp w0 w1 w2 w3) e q fun w0 w1 w2 w3=>⟨w0,w1,w2,w3,rfl⟩
 refine η ?_
 cases h; rfl
theorem Iv {e:Expr}{o:UnaryOp}{x:Expr}{p:Pos}(h:uO e=some (o,x,p)):e=.UnaryOp o x p:=by
 refine Oz.z fun ζ η=>?_
 obtain⟨q,h⟩:=dk h
 obtain⟨w0,w1,w2,rfl⟩:=Expr.UnaryOp.elim (motive_1:=fun e=>Oz.E3 fun w0 w1 w2=>e=.UnaryOp w0 w1 w2) e q fun w0 w1 w2=>⟨w0,w1,w2,rfl⟩
 refine η ?_
 cases h; rfl
theorem N9 {e:Expr}{o:BoolOp}{x:List Expr}{p:Pos}(h:lO e=some (o,x,p)):e=.BoolOp o x p:=by
 refine Oz.z fun ζ η=>?_
 obtain⟨q,h⟩:=dk h
 obtain⟨w0,w1,w2,rfl⟩:=Expr.BoolOp.elim (motive_1:=fun e=>Oz.E3 fun w0 w1 w2=>e=.BoolOp w0 w1 w2) e q fun w0 w1 w2=>⟨w0,w1,w2,rfl⟩
 refine η ?_
 cases h; rfl
theorem D2 {e:Expr}{o:Expr}{x:Str}{p:Pos}(h:aT e=some (o,x,p)):e=.Attribute o x p:=by
 refine Oz.z fun ζ η=>?_
 obtain⟨q,h⟩:=dk h
 obtain⟨w0,w1,w2,rfl⟩:=Expr.Attribute.elim (motive_1:=fun e=>Oz.E3 fun w0 w1 w2=>e=.Attribute w0 w1 w2) e q fun w0 w1 w2=>⟨w0,w1,w2,rfl⟩
 refine η ?_
 cases h; rfl
theorem Dd {e:Expr}{o x:Expr}{p:Pos}(h:sB e=some (o,x,p)):e=.Subscript o x p:=by
 refine Oz.z fun ζ η=>?_
 obtain⟨q,h⟩:=dk h
 obtain⟨w0,w1,w2,rfl⟩:=Expr.Subscript.elim (motive_1:=fun e=>Oz.E3 fun w0 w1 w2=>e=.Subscript w0 w1 w2) e q fun w0 w1 w2=>⟨w0,w1,w2,rfl⟩
 refine η ?_
 cases h; rfl
theorem Ml {e:Expr}{l:List Expr}{p:Pos}(h:liE e=some (l,p)):e=.List l p:=by
 refine Oz.z fun ζ η=>?_
 obtain⟨q,h⟩:=dk h
 obtain⟨w0,w1,rfl⟩:=Expr.List.elim (motive_1:=fun e=>Oz.E2 fun w0 w1=>e=.List w0 w1) e q fun w0 w1=>⟨w0,w1,rfl⟩
 refine η ?_
 cases h; rfl
theorem D8 {e:Expr}{l:List Expr}{c:Nat}{p:Pos}(h:tuE e=some (l,c,p)):e=.Tuple l c p:=by
 refine Oz.z fun ζ η=>?_
 obtain⟨q,h⟩:=dk h
 obtain⟨w0,w1,w2,rfl⟩:=Expr.Tuple.elim (motive_1:=fun e=>Oz.E3 fun w0 w1 w2=>e=.Tuple w0 w1 w2) e q fun w0 w1 w2=>⟨w0,w1,w2,rfl⟩
 refine η ?_
 cases h; rfl
theorem Nl {e:Expr}{l:List (Option Expr)}{c:List Expr}{p:Pos}(h:diE e=some (l,c,p)):e=.Dict l c p:=by
 refine Oz.z fun ζ η=>?_
 obtain⟨q,h⟩:=dk h
 obtain⟨w0,w1,w2,rfl⟩:=Expr.Dict.elim (motive_1:=fun e=>Oz.E3 fun w0 w1 w2=>e=.Dict w0 w1 w2) e q fun w0 w1 w2=>⟨w0,w1,w2,rfl⟩
 refine η ?_
 cases h; rfl
theorem Gn {e:Expr}{l:Expr}{c:List CmpOp}{r:List Expr}{p:Pos}(h:cmE e=some (l,c,r,p)):e=.Compare l c r p:=by
 refine Oz.z fun ζ η=>?_
 obtain⟨q,h⟩:=dk h
 obtain⟨w0,w1,w2,w3,rfl⟩:=Expr.Compare.elim (motive_1:=fun e=>Oz.E4 fun w0 w1 w2 w3=>e=.Compare w0 w1 w2 w3) e q fun w0 w1 w2 w3=>⟨w0,w1,w2,w3,rfl⟩
 refine η ?_
 cases h; rfl
theorem Go {e:Expr}{f:Expr}{a:List Expr}{k:List Keyword}{p:Pos}(h:clE e=some (f,a,k,p)):e=.Call f a k p:=by
 refine Oz.z fun ζ η=>?_
 obtain⟨q,h⟩:=dk h
 obtain⟨w0,w1,w2,w3,rfl⟩:=Expr.Call.elim (motive_1:=fun e=>Oz.E4 fun w0 w1 w2 w3=>e=.Call w0 w1 w2 w3) e q fun w0 w1 w2 w3=>⟨w0,w1,w2,w3,rfl⟩
 refine η ?_
 cases h; rfl
theorem Mq {e:Expr}{f:Expr}{a:List Comprehension}{k:Scope}{p:Pos}(h:lcE e=some (f,a,k,p)):e=.ListComp f a k p:=by
 refine Oz.z fun ζ η=>?_
 obtain⟨q,h⟩:=dk h
 obtain⟨w0,w1,w2,w3,rfl⟩:=Expr.ListComp.elim (motive_1:=fun e=>Oz.E4 fun w0 w1 w2 w3=>e=.ListComp w0 w1 w2 w3) e q fun w0 w1 w2 w3=>⟨w0,w1,w2,w3,rfl⟩
 refine η ?_
 cases h; rfl
theorem Kl {e:Expr}{l u t:Option Expr}{p:Pos}(h:Mw e=some (l,u,t,p)):e=.Slice l u t p:=by
 refine Oz.z fun ζ η=>?_
 obtain⟨q,h⟩:=dk h
 obtain⟨w0,w1,w2,w3,rfl⟩:=Expr.Slice.elim (motive_1:=fun e=>Oz.E4 fun w0 w1 w2 w3=>e=.Slice w0 w1 w2 w3) e q fun w0 w1 w2 w3=>⟨w0,w1,w2,w3,rfl⟩
 refine η ?_
 cases h; rfl
theorem wi {c:Const}{i:Int}(h:cIn c=some i):c=.int i:=by
 cases c with
 | int i=>cases h; rfl
 | _=>cases h
theorem nq {α:Type}{l:List α}{e:α}(h:on1 l=some e):l=[e]:=by
 cases l with
 | nil=>cases h
 | cons a r =>
  cases r with
  | nil=>cases h; rfl
  | cons _ _=>cases h
theorem vz {α:Type}{l:List α}{e d:α}(h:on2 l=some (e,d)):l=[e,d]:=by
 cases l with
 | nil=>cases h
 | cons a r =>
  cases r with
  | nil=>cases h
  | cons b r =>
   cases r with
   | nil=>cases h; rfl
   | cons _ _=>cases h
theorem A8 {e l r:Expr}{o:CmpOp}{p:Pos}(h:is1 e=some (l,o,r,p)):e=.Compare l [o] [r] p:=by
 refine Oz.z fun ζ η=>?_
 obtain⟨⟨l',os,rs,p'⟩,h1,h2⟩:=Oz.g22.mp h
 obtain⟨o',h3,h4⟩:=Oz.g22.mp h2
 obtain⟨r',h5,h6⟩:=Oz.g11.mp h4
 refine η ?_
 cases h6
 rw [Gn h1,show os=_ from nq h3,show rs=_ from nq h5]
theorem M0 {e l r₁ r₂:Expr}{p₁ p₂:CmpOp}{p:Pos}(h:is2 e=some (l,(p₁,p₂),(r₁,r₂),p)):e=.Compare l [p₁,p₂] [r₁,r₂] p:=by
 refine Oz.z fun ζ η=>?_
 obtain⟨⟨l',os,rs,p'⟩,h1,h2⟩:=Oz.g22.mp h
 obtain⟨o',h3,h4⟩:=Oz.g22.mp h2
 obtain⟨r',h5,h6⟩:=Oz.g11.mp h4
 refine η ?_
 cases h6
 rw [Gn h1,show os=_ from vz h3,show rs=_ from vz h5]
theorem oh {e:Expr}{x:Str}{px p:Pos}{args:List Expr}(h:caN e=some (x,px,args,p)):e=.Call (.Name x px) args [] p:=by
 refine Oz.z fun ζ η=>?_
 obtain⟨⟨f,a,k,q⟩,h1,h2⟩:=Oz.g22.mp h
 refine η ?_
 cases k with
 | nil =>
  obtain⟨y,h3,h4⟩:=Oz.g11.mp h2
  cases h4
  rw [Go h1,show f=_ from jz h3]
 | cons _ _=>exact br h2
theorem Gq {e o:Expr}{x:Str}{q p:Pos}{args:List Expr}(h:caA e=some ((o,x,q),args,p)):e=.Call (.Attribute o x q) args [] p:=by
 refine Oz.z fun ζ η=>?_
 obtain⟨⟨f,a,k,q⟩,h1,h2⟩:=Oz.g22.mp h
 refine η ?_
 cases k with
 | nil =>
  obtain⟨y,h3,h4⟩:=Oz.g11.mp h2
  cases h4
  rw [Go h1,show f=_ from D2 h3]
 | cons _ _=>exact br h2
theorem Lj {o:BoolOp}{e a b:Expr}(h:spB o e=some (a,b)):(∃ p,e=.BoolOp o [a,b] p)∨Oz.E4 fun e₂ e₃ r p=>e=.BoolOp o (a::e₂::e₃::r) p∧b=.BoolOp o (e₂::e₃::r) p:=by
 refine Oz.z fun ζ η=>?_
 obtain⟨⟨o',es,p⟩,h1,h2⟩:=Oz.g22.mp h
 refine η ?_
 rw [N9 h1]
 by_cases q:o'=o
 ·subst q
  have h2:=(if_pos (c:=o'=o') rfl).symm.trans h2
  cases es with
  | nil=>exact br h2
  | cons e₁ es =>
   cases es with
   | nil=>exact br h2
   | cons e₂ es =>
    cases es with
    | nil=>cases h2; exact .inl ⟨_,rfl⟩
    | cons e₃ es=>cases h2; exact .inr ⟨_,_,_,_,rfl,rfl⟩
 ·exact br ((if_neg (c:=o'=o) q).symm.trans h2)
theorem Km {l:List Comprehension}{x:Str}{px:Pos}{it:Expr}{ifs:List Expr}(h:Mz l=some (x,px,it,ifs)):l=[⟨.Name x px,it,ifs,0⟩]:=by
 cases l with
 | nil=>cases h
 | cons c r =>
  cases r with
  | nil =>
   obtain⟨t,it',ifs',z⟩:=c
   by_cases hz:z=0
   ·subst hz
    have h:(nmE t).map (fun x=>(x.1,x.2,it',ifs'))=some (x,px,it,ifs):=h
    obtain⟨y,h1,h2⟩:=Oz.g11.mp h
    cases h2
    rw [jz h1]
   ·have h:(if z=0 then (nmE t).map (fun x=>(x.1,x.2,it',ifs')) else Option.none)=some (x,px,it,ifs):=h
    rw [if_neg hz] at h; cases h
  | cons _ _=>cases h
noncomputable def Hw (_:CE):Bool:=false
noncomputable def Hx (_:CE):Bool:=false
noncomputable def p0:IK→Bool | .keys=>true | _=>false
noncomputable def kOk (ik:IK) (elt cond:CE):Bool := !p0 ik||(Hw elt&&Hx cond)
noncomputable def A0 (sc:Sc) (x:Str) (n:Nat) (e:Expr):Option (List Expr):=(caN e).bind fun y=>if y.1 == x&&glb sc y.1&&y.2.2.1.length == n then some y.2.2.1 else Option.none
noncomputable def Fv (sc:Sc) (ik:IK) (e:Expr):Option (List Expr):=match ik with
 | .val=>some [e]
 | .keys=>Option.none
 | .range1=>A0 sc "range" 1 e
 | .range3=>Option.none
 | .enum=>Option.none
 | .rev=>A0 sc "reversed" 1 e
section
variable (tx:Tx)
mutual
noncomputable def mtE (sc:Sc):CE→Expr→Bool
 | .none,e=>(cst e).any fun y=>kk y.1 Option.none
 | .bool b,e=>(cst e).any fun y=>kk y.1 (some b)
 | .int i,e=>(cst e).any fun y=>(cIn y.1).any fun j=>i == j
 | .pow a n,e=>(bO e).any fun q=>q.2.1 == .Pow&&(cst q.1).any fun y=>(cIn y.1).any fun i=>(cst q.2.2.1).any fun z=>(cIn z.1).any fun j=>i == (a:Int)&&j == (n:Int)&&decide ((Builtin.Int.intBits i:Int)*j≤2^27)
 | .loc k,e=>(nmE e).any fun x=>sc.slots[k]? == some (some x.1)&&(x.1 == ("__debug__" : Str)) == false
 | .bin op a b,e=>(bO e).any fun y=>y.2.1 == Hj op&&mtE sc a y.1&&mtE sc b y.2.2.1
 | .neg a,e=>(uO e).any fun y=>y.1 == .USub&&mtE sc a y.2.1
 | .not a,e=>(uO e).any fun y=>y.1 == .Not&&mtE sc a y.2.1
 | .and a b,e=>(spB .And e).any fun y=>mtE sc a y.1&&mtE sc b y.2
 | .or a b,e=>(spB .Or e).any fun y=>mtE sc a y.1&&mtE sc b y.2
 | .cmp op a b,e=>(is1 e).any fun y=>y.2.1 == oq op&&mtE sc a y.1&&mtE sc b y.2.2.1&&behindInMarks y.2.1 y.2.2.1 == false
 | .isC neg a c,e=>(is1 e).any fun y=>(cst y.2.2.1).any fun k=>y.2.1 == (if neg then .IsNot else .Is)&&mtE sc a y.1&&kk k.1 c
 | .isin neg a b,e=>(is1 e).any fun y=>y.2.1 == (if neg then .NotIn else .In)&&mtE sc a y.1&&mtE sc b y.2.2.1&&behindInMarks y.2.1 y.2.2.1 == false
 | .chain a o₁ b o₂ c,e=>(is2 e).any fun y=>y.2.1.1 == oq o₁&&y.2.1.2 == oq o₂&&mtE sc a y.1&&mtE sc b y.2.2.1.1&&mtE sc c y.2.2.1.2&&lastMarks [y.2.1.1,y.2.1.2] [y.2.2.1.1,y.2.2.1.2] == false
 | .attr a n,e=>(aT e).any fun y=>tx.attr n == some y.2.1&&j6 y.1&&mtE sc a y.1
 | .item a i,e=>(sB e).any fun y=>mtE sc a y.1&&mtE sc i y.2.1
 | .slice a lo hi st,e=>(sB e).any fun z=>(Mw z.2.1).any fun y=>mtE sc a z.1&&y.1.elim (A3 lo) (fun l=>mtE sc lo l)&&y.2.1.elim (A3 hi) (fun l=>mtE sc hi l)&&y.2.2.1.elim (st == 0) fun l=>(cst l).any fun k=>(cIn k.1).any fun k=>k == (st:Int)&&st != 0
 | .list es,e=>(liE e).any fun y=>mtEs sc es y.1
 | .tup es,e=>(tuE e).any fun y=>mtEs sc es y.1
 | .dict0,e=>(diE e).any fun y=>y.1.isEmpty&&y.2.1.isEmpty
 | .call f es,e=>(caN e).any fun y=>sc.calm&&(tx.fnName f == some y.1&&glb sc y.1&&mtEs sc es y.2.2.1)
 | .new c es,e=>(caN e).any fun y=>sc.calm&&(tx.clsName c == some y.1&&glb sc y.1&&mtEs sc es y.2.2.1)
 | .meth a m es,e=>(caA e).any fun y=>sc.calm&&(tx.mth m == some y.1.2.1&&j6 y.1.1&&y.1.2.2.endLine == y.2.2.line&&decide (y.2.1.length<30)&&mtE sc a y.1.1&&mtEs sc es y.2.1)
 | .bm m a es,e=>(caA e).any fun y=>Bn m == y.1.2.1&&j6 y.1.1&&y.1.2.2.endLine == y.2.2.line&&decide (y.2.1.length<30)&&mtE sc a y.1.1&&mtEs sc es y.2.1
 | .bf b es,e=>(caN e).any fun y=>(sc.calm||My b)&&(tn b == y.1&&glb sc y.1&&cond (Mx b) false (mtEs sc es y.2.2.1))
 | .isinst a t,e=>(caN e).any fun y=>(on2 y.2.2.1).any fun z=>(nmE z.2).any fun w=>y.1 == ("isinstance" : Str)&&glb sc y.1&&mtE sc a z.1&&D6 tx t == some w.1&&glb sc w.1
 | .comp elt ik es cond,e=>(lcE e).any fun z=>(Mz z.2.1).any fun y=>(sc.calm&&kOk ik elt cond)&&(sw sc y.1 z.2.2.1&&(Fv sc ik y.2.2.1).any (fun args=>mtEs sc es args)&&mtE (c7 sc y.1 z.2.2.1.names) elt z.1&&(if1 y.2.2.2).any fun o=>o.elim (Mv cond) fun c=>mtE (c7 sc y.1 z.2.2.1.names) cond c)
noncomputable def mtEs (sc:Sc):CEs→List Expr→Bool
 | .nil,es=>es.isEmpty
 | .cons c cs,es=>match es with | e::r=>mtE sc c e&&mtEs sc cs r | []=>false
end
noncomputable def nw (sc:Sc) (ik:IK) (es:CEs) (e:Expr):Bool:=(Fv sc ik e).any fun args=>mtEs tx sc es args
noncomputable def Di (sc:Sc) (cond:CE) (ifs:List Expr):Bool:=(if1 ifs).any fun o=>o.elim (Mv cond) fun c=>mtE tx sc cond c
end
section
variable {tx:Tx}{sc:Sc}{e:Expr}
theorem wz (h:mtE tx sc .none e=true):Oz.E2 fun i p=>e=.Constant .none i p:=by
 refine Oz.z fun ζ η=>?_
 obtain⟨⟨c,i,p⟩,h1,h2⟩:=any_some h
 refine η ?_
 rw [mh h1]
 cases c with
 | none=>exact⟨_,_,rfl⟩
 | _=>exact ba h2
theorem Av {op:Op}{a b:CE}(h:mtE tx sc (.bin op a b) e=true):Oz.E4 fun l o r p=>e=.BinOp l o r p∧(o == Hj op&&mtE tx sc a l&&mtE tx sc b r)=true:=by
 refine Oz.z fun ζ η=>?_
 obtain⟨⟨l,o,r,p⟩,h1,h2⟩:=any_some h
 refine η ?_
 exact⟨l,o,r,p,Je h1,h2⟩
theorem Aq {a:CE}(h:mtE tx sc (.neg a) e=true):Oz.E2 fun x p=>e=.UnaryOp .USub x p∧mtE tx sc a x=true:=by
 refine Oz.z fun ζ η=>?_
 obtain⟨⟨o,x,p⟩,h1,h2⟩:=any_some h
 obtain⟨h3,h4⟩:=Oz.g14.mp h2
 have h3:o=_:=eq_of_beq h3
 subst h3
 refine η ?_
 exact⟨x,p,Iv h1,h4⟩
theorem Ao {a:CE}(h:mtE tx sc (.not a) e=true):Oz.E2 fun x p=>e=.UnaryOp .Not x p∧mtE tx sc a x=true:=by
 refine Oz.z fun ζ η=>?_
 obtain⟨⟨o,x,p⟩,h1,h2⟩:=any_some h
 obtain⟨h3,h4⟩:=Oz.g14.mp h2
 have h3:o=_:=eq_of_beq h3
 subst h3
 refine η ?_
 exact⟨x,p,Iv h1,h4⟩
theorem Fg {o:BoolOp}{a b:CE}(h:((spB o e).any fun y=>mtE tx sc a y.1&&mtE tx sc b y.2)=true):(Oz.E3 fun e₁ e₂ p=>e=.BoolOp o [e₁,e₂] p∧(mtE tx sc a e₁&&mtE tx sc b e₂)=true)∨Oz.E5 fun e₁ e₂ e₃ r p=>e=.BoolOp o (e₁::e₂::e₃::r) p∧(mtE tx sc a e₁&&mtE tx sc b (.BoolOp o (e₂::e₃::r) p))=true:=by
 obtain⟨⟨x,y⟩,h1,h2⟩:=any_some h
 rcases Lj h1 with ⟨p,h3⟩ | ⟨e₂,e₃,r,p,h3,h4⟩
 ·exact .inl ⟨x,y,p,h3,h2⟩
 ·subst h4
  exact .inr ⟨x,e₂,e₃,r,p,h3,h2⟩
theorem Aw {a b:CE}(h:mtE tx sc (.and a b) e=true):(Oz.E3 fun e₁ e₂ p=>e=.BoolOp .And [e₁,e₂] p∧(mtE tx sc a e₁&&mtE tx sc b e₂)=true)∨Oz.E5 fun e₁ e₂ e₃ r p=>e=.BoolOp .And (e₁::e₂::e₃::r) p∧(mtE tx sc a e₁&&mtE tx sc b (.BoolOp .And (e₂::e₃::r) p))=true:=Fg h
theorem De {a b:CE}(h:mtE tx sc (.or a b) e=true):(Oz.E3 fun e₁ e₂ p=>e=.BoolOp .Or [e₁,e₂] p∧(mtE tx sc a e₁&&mtE tx sc b e₂)=true)∨Oz.E5 fun e₁ e₂ e₃ r p=>e=.BoolOp .Or (e₁::e₂::e₃::r) p∧(mtE tx sc a e₁&&mtE tx sc b (.BoolOp .Or (e₂::e₃::r) p))=true:=Fg h
theorem xf {a:CE}{n:Nat}(h:mtE tx sc (.attr a n) e=true):Oz.E3 fun v x p=>e=.Attribute v x p∧(tx.attr n == some x&&j6 v&&mtE tx sc a v)=true:=by
 refine Oz.z fun ζ η=>?_
 obtain⟨⟨v,x,p⟩,h1,h2⟩:=any_some h
 refine η ?_
 exact⟨v,x,p,D2 h1,h2⟩
theorem w7 {a i:CE}(h:mtE tx sc (.item a i) e=true):Oz.E3 fun v x p=>e=.Subscript v x p∧(mtE tx sc a v&&mtE tx sc i x)=true:=by
 refine Oz.z fun ζ η=>?_
 obtain⟨⟨v,x,p⟩,h1,h2⟩:=any_some h
 refine η ?_
 exact⟨v,x,p,Dd h1,h2⟩
theorem w6 {es:CEs}(h:mtE tx sc (.list es) e=true):Oz.E2 fun l p=>e=.List l p∧mtEs tx sc es l=true:=by
 obtain⟨⟨l,p⟩,h1,h2⟩:=any_some h
 exact⟨l,p,Ml h1,h2⟩
theorem Am {es:CEs}(h:mtE tx sc (.tup es) e=true):Oz.E3 fun l c p=>e=.Tuple l c p∧mtEs tx sc es l=true:=by
 refine Oz.z fun ζ η=>?_
 obtain⟨⟨l,c,p⟩,h1,h2⟩:=any_some h
 refine η ?_
 exact⟨l,c,p,D8 h1,h2⟩
theorem uy (h:mtE tx sc .dict0 e=true):∃ p,e=.Dict [] [] p:=by
 refine Oz.z fun ζ η=>?_
 obtain⟨⟨l,c,p⟩,h1,h2⟩:=any_some h
 obtain⟨h3,h4⟩:=Oz.g14.mp h2
 refine η ?_
 exact⟨p,by rw [Nl h1,show l=[] from List.isEmpty_iff.mp h3,show c=[] from List.isEmpty_iff.mp h4]⟩
theorem xd {b:Bool}(h:mtE tx sc (.bool b) e=true):Oz.E3 fun c i p=>e=.Constant (.bool c) i p∧(c == b)=true:=by
 refine Oz.z fun ζ η=>?_
 obtain⟨⟨c,i,p⟩,h1,h2⟩:=any_some h
 refine η ?_
 rw [mh h1]
 cases c with
 | bool c=>exact⟨_,_,_,rfl,h2⟩
 | _=>exact ba h2
theorem As {b:Int}(h:mtE tx sc (.int b) e=true):Oz.E3 fun c i p=>e=.Constant (.int c) i p∧(b == c)=true:=by
 refine Oz.z fun ζ η=>?_
 obtain⟨⟨c,i,p⟩,h1,h2⟩:=any_some h
 obtain⟨j,h3,h4⟩:=any_some h2
 refine η ?_
 rw [mh h1,show c=_ from wi h3]
 exact⟨_,_,_,rfl,h4⟩
theorem An {a n:Nat}(h:mtE tx sc (.pow a n) e=true):Oz.E7 fun i u v j u' v' p=>e=.BinOp (.Constant (.int i) u v) .Pow (.Constant (.int j) u' v') p∧(i == (a:Int)&&j == (n:Int)&&decide ((Builtin.Int.intBits i:Int)*j≤2^27))=true:=by
 refine Oz.z fun ζ η=>?_
 obtain⟨⟨l,o,r,p⟩,h0,h⟩:=any_some h
 obtain⟨ho,h⟩:=Oz.g14.mp h
 have ho:o=_:=eq_of_beq ho
 obtain⟨⟨c,u,v⟩,h1,h2⟩:=any_some h
 obtain⟨i,h3,h4⟩:=any_some h2
 obtain⟨⟨d,u',v'⟩,h5,h6⟩:=any_some h4
 obtain⟨j,h7,h8⟩:=any_some h6
 refine η ?_
 rw [Je h0,ho,show l=_ from mh h1,show r=_ from mh h5,show c=_ from wi h3,show d=_ from wi h7]
 exact⟨_,_,_,_,_,_,_,rfl,h8⟩
theorem Ar {k:Nat}(h:mtE tx sc (.loc k) e=true):Oz.E2 fun x p=>e=.Name x p∧(sc.slots[k]? == some (some x)&&(x == ("__debug__" : Str)) == false)=true:=by
 obtain⟨⟨x,p⟩,h1,h2⟩:=any_some h
 exact⟨x,p,jz h1,h2⟩
theorem Ff {op:COp}{a b:CE}(h:mtE tx sc (.cmp op a b) e=true):Oz.E4 fun l o r p=>e=.Compare l [o] [r] p∧(o == oq op&&mtE tx sc a l&&mtE tx sc b r&&behindInMarks o r == false)=true:=by
 refine Oz.z fun ζ η=>?_
 obtain⟨⟨l,o,r,p⟩,h1,h2⟩:=any_some h
 refine η ?_
 exact⟨l,o,r,p,A8 h1,h2⟩
theorem Fe {neg:Bool}{a:CE}{c:Option Bool}(h:mtE tx sc (.isC neg a c) e=true):Oz.E6 fun l o k i q p=>e=.Compare l [o] [.Constant k i q] p∧(o == (if neg then .IsNot else .Is)&&mtE tx sc a l&&kk k c)=true:=by
 refine Oz.z fun ζ η=>?_
 obtain⟨⟨l,o,r,p⟩,h1,h2⟩:=any_some h
 obtain⟨⟨k,i,q⟩,h3,h4⟩:=any_some h2
 have h3:r=_:=mh h3
 subst h3
 refine η ?_
 exact⟨l,o,k,i,q,p,A8 h1,h4⟩
theorem Ci {neg:Bool}{a b:CE}(h:mtE tx sc (.isin neg a b) e=true):Oz.E4 fun l o r p=>e=.Compare l [o] [r] p∧(o == (if neg then .NotIn else .In)&&mtE tx sc a l&&mtE tx sc b r&&behindInMarks o r == false)=true:=by
 refine Oz.z fun ζ η=>?_
 obtain⟨⟨l,o,r,p⟩,h1,h2⟩:=any_some h
 refine η ?_
 exact⟨l,o,r,p,A8 h1,h2⟩
theorem Au {a b c:CE}{o₁ o₂:COp}(h:mtE tx sc (.chain a o₁ b o₂ c) e=true):Oz.E6 fun l p₁ p₂ r₁ r₂ p=>e=.Compare l [p₁,p₂] [r₁,r₂] p∧(p₁ == oq o₁&&p₂ == oq o₂&&mtE tx sc a l&&mtE tx sc b r₁&&mtE tx sc c r₂&&lastMarks [p₁,p₂] [r₁,r₂] == false)=true:=by
 refine Oz.z fun ζ η=>?_
 obtain⟨⟨l,⟨p₁,p₂⟩,⟨r₁,r₂⟩,p⟩,h1,h2⟩:=any_some h
 refine η ?_
 exact⟨l,p₁,p₂,r₁,r₂,p,M0 h1,h2⟩
theorem uw {a lo hi:CE}{st:Nat}(h:mtE tx sc (.slice a lo hi st) e=true):Oz.E6 fun v l u t q p=>e=.Subscript v (.Slice l u t q) p∧(mtE tx sc a v&&l.elim (A3 lo) (fun l=>mtE tx sc lo l)&&u.elim (A3 hi) (fun l=>mtE tx sc hi l)&&t.elim (st == 0) fun l=>(cst l).any fun k=>(cIn k.1).any fun k=>k == (st:Int)&&st != 0)=true:=by
 refine Oz.z fun ζ η=>?_
 obtain⟨⟨v,sl,p⟩,h0,h⟩:=any_some h
 obtain⟨⟨l,u,t,q⟩,h1,h2⟩:=any_some h
 refine η ?_
 exact⟨v,l,u,t,q,p,by rw [Dd h0,show sl=_ from Kl h1],h2⟩
theorem w8 {f:Nat}{es:CEs}(h:mtE tx sc (.call f es) e=true):Oz.E4 fun x px args p=>e=.Call (.Name x px) args [] p∧sc.calm=true∧(tx.fnName f == some x&&glb sc x&&mtEs tx sc es args)=true:=by
 refine Oz.z fun ζ η=>?_
 obtain⟨⟨x,px,args,p⟩,h1,h2⟩:=any_some h
 obtain⟨h0,h2⟩:=Oz.g14.mp h2
 refine η ?_
 exact⟨x,px,args,p,oh h1,h0,h2⟩
theorem Ap {c:Nat}{es:CEs}(h:mtE tx sc (.new c es) e=true):Oz.E4 fun x px args p=>e=.Call (.Name x px) args [] p∧sc.calm=true∧(tx.clsName c == some x&&glb sc x&&mtEs tx sc es args)=true:=by
 refine Oz.z fun ζ η=>?_
 obtain⟨⟨x,px,args,p⟩,h1,h2⟩:=any_some h
 obtain⟨h0,h2⟩:=Oz.g14.mp h2
 refine η ?_
 exact⟨x,px,args,p,oh h1,h0,h2⟩
theorem w5 {a:CE}{m:Nat}{es:CEs}(h:mtE tx sc (.meth a m es) e=true):Oz.E5 fun o x q args p=>e=.Call (.Attribute o x q) args [] p∧sc.calm=true∧(tx.mth m == some x&&j6 o&&q.endLine == p.line&&decide (args.length<30)&&mtE tx sc a o&&mtEs tx sc es args)=true:=by
 refine Oz.z fun ζ η=>?_
 obtain⟨⟨⟨o,x,q⟩,args,p⟩,h1,h2⟩:=any_some h
 obtain⟨h0,h2⟩:=Oz.g14.mp h2
 refine η ?_
 exact⟨o,x,q,args,p,Gq h1,h0,h2⟩
theorem Dg {m:BM}{a:CE}{es:CEs}(h:mtE tx sc (.bm m a es) e=true):Oz.E5 fun o x q args p=>e=.Call (.Attribute o x q) args [] p∧(Bn m == x&&j6 o&&q.endLine == p.line&&decide (args.length<30)&&mtE tx sc a o&&mtEs tx sc es args)=true:=by
 refine Oz.z fun ζ η=>?_
 obtain⟨⟨⟨o,x,q⟩,args,p⟩,h1,h2⟩:=any_some h
 refine η ?_
 exact⟨o,x,q,args,p,Gq h1,h2⟩
theorem Dh {b:BF}{es:CEs}(h:mtE tx sc (.bf b es) e=true):Oz.E4 fun x px args p=>e=.Call (.Name x px) args [] p∧(sc.calm||My b)=true∧(tn b == x&&glb sc x&&cond (Mx b) false (mtEs tx sc es args))=true:=by
 refine Oz.z fun ζ η=>?_
 obtain⟨⟨x,px,args,p⟩,h1,h2⟩:=any_some h
 obtain⟨h0,h2⟩:=Oz.g14.mp h2
 refine η ?_
 exact⟨x,px,args,p,oh h1,h0,h2⟩
theorem ru {a:CE}{t:TY}(h:mtE tx sc (.isinst a t) e=true):Oz.E6 fun x px v y py p=>e=.Call (.Name x px) [v,.Name y py] [] p∧(x == ("isinstance" : Str)&&glb sc x&&mtE tx sc a v&&D6 tx t == some y&&glb sc y)=true:=by
 refine Oz.z fun ζ η=>?_
 obtain⟨⟨x,px,args,p⟩,h1,h2⟩:=any_some h
 obtain⟨⟨v,z⟩,h3,h4⟩:=any_some h2
 obtain⟨⟨y,py⟩,h5,h6⟩:=any_some h4
 refine η ?_
 have h3:args=_:=vz h3
 have h5:z=_:=jz h5
 subst h5; subst h3
 exact⟨x,px,v,y,py,p,oh h1,h6⟩
theorem ud {elt cond:CE}{ik:IK}{es:CEs}(h:mtE tx sc (.comp elt ik es cond) e=true):Oz.E7 fun el x px iter ifs scope p=>e=.ListComp el [⟨.Name x px,iter,ifs,0⟩] scope p ∧
  (sc.calm=true∧kOk ik elt cond=true)∧(sw sc x scope&&nw tx sc ik es iter&&mtE tx (c7 sc x scope.names) elt el&&Di tx (c7 sc x scope.names) cond ifs)=true:=by
 refine Oz.z fun ζ η=>?_
 obtain⟨⟨el,cs,scope,p⟩,h0,h⟩:=any_some h
 obtain⟨⟨x,px,it,ifs⟩,h1,h2⟩:=any_some h
 obtain⟨h3,h2⟩:=Oz.g14.mp h2
 refine η ?_
 exact⟨el,x,px,it,ifs,scope,p,by rw [Mq h0,show cs=_ from Km h1],Oz.g14.mp h3,h2⟩
noncomputable def okK:Expr→Bool
 | .Starred ..=>false | .Slice ..=>false | .Set ..=>false | .SetComp ..=>false | .DictComp ..=>false | _=>true
theorem km {c:CE}(h:mtE tx sc c e=true):okK e=true:=by
 cases c with
 | none=>obtain⟨_,_,rfl⟩:=wz h; rfl
 | bool b=>obtain⟨_,_,_,rfl,_⟩:=xd h; rfl
 | int b=>obtain⟨_,_,_,rfl,_⟩:=As h; rfl
 | pow a n=>obtain⟨_,_,_,_,_,_,_,rfl,_⟩:=An h; rfl
 | loc k=>obtain⟨_,_,rfl,_⟩:=Ar h; rfl
 | bin o a b=>obtain⟨_,_,_,_,rfl,_⟩:=Av h; rfl
 | neg a=>obtain⟨_,_,rfl,_⟩:=Aq h; rfl
 | not a=>obtain⟨_,_,rfl,_⟩:=Ao h; rfl
 | and a b=>rcases Aw h with ⟨_,_,_,rfl,_⟩ | ⟨_,_,_,_,_,rfl,_⟩ <;> rfl
 | or a b=>rcases De h with ⟨_,_,_,rfl,_⟩ | ⟨_,_,_,_,_,rfl,_⟩ <;> rfl
 | cmp o a b=>obtain⟨_,_,_,_,rfl,_⟩:=Ff h; rfl
 | isC n a b=>obtain⟨_,_,_,_,_,_,rfl,_⟩:=Fe h; rfl
 | isin n a b=>obtain⟨_,_,_,_,rfl,_⟩:=Ci h; rfl
 | chain a o b p c=>obtain⟨_,_,_,_,_,_,rfl,_⟩:=Au h; rfl
 | attr a n=>obtain⟨_,_,_,rfl,_⟩:=xf h; rfl
 | item a n=>obtain⟨_,_,_,rfl,_⟩:=w7 h; rfl
 | slice a b c d=>obtain⟨_,_,_,_,_,_,rfl,_⟩:=uw h; rfl
 | list es=>obtain⟨_,_,rfl,_⟩:=w6 h; rfl
 | tup es=>obtain⟨_,_,_,rfl,_⟩:=Am h; rfl
 | dict0=>obtain⟨_,rfl⟩:=uy h; rfl
 | call f es=>obtain⟨_,_,_,_,rfl,_⟩:=w8 h; rfl
 | new f es=>obtain⟨_,_,_,_,rfl,_⟩:=Ap h; rfl
 | meth a f es=>obtain⟨_,_,_,_,_,rfl,_⟩:=w5 h; rfl
 | bm f a es=>obtain⟨_,_,_,_,_,rfl,_⟩:=Dg h; rfl
 | bf f es=>obtain⟨_,_,_,_,rfl,_⟩:=Dh h; rfl
 | isinst a t=>obtain⟨_,_,_,_,_,_,rfl,_⟩:=ru h; rfl
 | comp a b c d=>obtain⟨_,_,_,_,_,_,_,rfl,_⟩:=ud h; rfl
end
end Sk
namespace Sk
open PySem PySem.Calls PySem.W PyProof.Rows PySem.Spec
structure FmK (n:Nat) (f:Fm):Prop extends FmOk f where
 room:f.A.depth+2*n+2<recursionLimit
 units:f.A.units+16*n+16<cLine
noncomputable def Fm.sc (f:Fm):Sc:=⟨f.env.scope.names,f.slots,f.A.handled.isNone⟩
theorem fg {f:Fm}(h:f.sc.calm=true):f.A.handled=none:=Option.isNone_iff_eq_none.mp h
section
variable (Γ:Cx) (Rz:Rise) (cl:CallO) (n:Nat)
noncomputable def bg (c:CE):Prop := ∀ (f:Fm) (e:Expr),FmK n f→mtE Γ.tx f.sc c e=true→∀ hid ρ l h s Q E,At Γ f hid ρ l h s →
 aw (ev Γ.G cl c l h) (OKQ Γ f hid ρ l Q) (EXQ Rz f hid ρ l E)→wpAny (model Γ.prog Γ.w) f.A (eval e f.env) Q E s
noncomputable def ic (c:CE):Prop := ∀ (f:Fm) (e:Expr),FmK n f→mtE Γ.tx f.sc c e=true→∀ hid ρ l h s Q E,At Γ f hid ρ l h s →
 aw (ev Γ.G cl c l h) (OKB Γ f hid ρ l Q) (EXQ Rz f hid ρ l E)→wpAny (model Γ.prog Γ.w) f.A (isTrue e f.env (eval e f.env)) Q E s
noncomputable def ji (cs:CEs):Prop := ∀ (f:Fm) (es:List Expr) (pos:Pos),FmK n f→mtEs Γ.tx f.sc cs es=true→∀ hid ρ l h s Q E,At Γ f hid ρ l h s →
 aw (evs Γ.G cl cs l h) (OKL Γ f hid ρ l Q) (EXQ Rz f hid ρ l E)→wpAny (model Γ.prog Γ.w) f.A (spliced (backTo pos (starEach es f.env))) Q E s
end
theorem Bw {v:AV}{b:Bool}(h:truthy v=some b):v=.bool b:=by
 cases v with
 | bool c=>cases h; rfl
 | _=>cases h
section
variable {Γ:Cx}{Rz:Rise}{cl:CallO}{n:Nat}{f:Fm}{hid:List (Addr×Obj)}{ρ ρ' : List Addr}{l:LOC}{h:HP}{s:Shared}{E:Value→Shared→Prop}{M:Model}
theorem OKB.toQ {Q:Bool→Shared→Prop}{v:AV}{h' : HP}(q:OKB Γ f hid ρ l Q v h'):OKQ Γ f hid ρ l (fun v' s'=>wpAny M f.A (PySem.truthy v') Q E s') v h' := by
 obtain⟨b,e,q⟩:=q
 rw [Bw e]
 intro v' ρ' s' pre t vr
 cases vr
 exact wpAny_truthy_bool (q ρ' s' pre t)
theorem OKB.ext {Q:Bool→Shared→Prop}{v:AV}{h:HP}(p:ρ<+:ρ') (x:OKB Γ f hid ρ l Q v h):OKB Γ f hid ρ' l Q v h:=by
 obtain⟨b,e,q⟩:=x
 exact⟨b,e,fun ρ'' s' q' r=>q ρ'' s' (p.trans q') r⟩
noncomputable def Pn (pin:Option (Addr×Obj)) (ρ:List Addr) (s:Shared):Prop := ∀ p,pin=some p→p.1∈ρ∧s.heap.get? p.1=some p.2
theorem Pn.none {ρ:List Addr}{s:Shared}:Pn Option.none ρ s:=fun p e=>by cases e
theorem Pn.keep {pin:Option (Addr×Obj)}{ρ ρ' : List Addr}{s s' : Shared}(x:Pn pin ρ s) (p:ρ<+:ρ') (k:∀ b∈ρ,∀ o,s.heap.get? b=some o→s'.heap.get? b=some o):Pn pin ρ' s' := fun q e=>⟨p.subset (x q e).1,k _ (x q e).1 _ (x q e).2⟩
theorem cc {c:CE}(hV:bg Γ Rz cl n c) (hp:∀ sc e env whole,mtE Γ.tx sc c e=true→isTrue e env whole=(do let v ← whole; standAt e.pos; holding [v] (PySem.truthy v))):ic Γ Rz cl n c:=by
 intro f e ok hm hid ρ l h s Q E t p
 refine isTrue_plain (hV f e ok hm hid ρ l h s _ E t (p.mono (fun v h' q=>?_) fun ζ ζ x=>x)) (hp f.sc e f.env _ hm)
 exact OKB.toQ q
theorem aw.thenE {α β:Type}{r:R α}{k:α→HP→R β}{okA:α→HP→Prop}{ok:β→HP→Prop}{ex:Nat→HP→Prop}(p:aw (r.bind k) ok ex) (h:∀ a h',aw (k a h') ok ex→okA a h'):aw r okA ex :=
 (bq.mp p).mono h fun ζ ζ x=>x
theorem zx:bg Γ Rz cl n .none:=by
 intro f e ok hm hid ρ l h s Q E t p
 replace hm:=wz hm
 obtain⟨_,_,rfl⟩:=hm
 ·exact Constant_none (p _ _ _ (Oz.g7 _) t rfl)
theorem z4 {b:Bool}:bg Γ Rz cl n (.bool b):=by
 intro f e ok hm hid ρ l h s Q E t p
 replace hm:=xd hm
 refine Oz.z fun ζ η=>?_
 obtain⟨_,_,_,rfl,hm⟩:=hm
 refine η ?_
 ·cases eq_of_beq hm; exact Constant_bool (p _ _ _ (Oz.g7 _) t rfl)
theorem B8 {i:Int}:bg Γ Rz cl n (.int i):=by
 intro f e ok hm hid ρ l h s Q E t p
 replace hm:=As hm
 refine Oz.z fun ζ η=>?_
 obtain⟨_,_,_,rfl,hm⟩:=hm
 refine η ?_
 ·cases eq_of_beq hm; exact wpAny_Constant_int (p _ _ _ (Oz.g7 _) (t.toks _) ⟨_,rfl⟩)
theorem B6 {a m:Nat}:bg Γ Rz cl n (.pow a m):=by
 intro f e ok hm hid ρ l h s Q E t p
 replace hm:=An hm
 refine Oz.z fun ζ η=>?_
 obtain⟨_,_,_,_,_,_,_,rfl,hm⟩:=hm
 refine η ?_
 ·simp only [Oz.g5,decide_eq_true_eq,beq_iff_eq] at hm
  refine Oz.z fun ζ1 η1=>?_
  obtain⟨⟨rfl,rfl⟩,hb⟩:=hm
  refine η1 ?_
  exact wpAny_BinOp (wpAny_Constant_int (wpAny_Constant_int (pow_int (Oz.o205) hb (p _ _ _ (Oz.g7 _) (((t.toks _).toks _).toks _) ⟨_,by simp; rfl⟩))))
theorem G3 {k:Nat}{e:Expr}{Q:Value→Shared→Prop}(ok:FmK n f) (hm:mtE Γ.tx f.sc (.loc k) e=true) (t:At Γ f hid ρ l h s) (p:aw (ev Γ.G cl (.loc k) l h) (fun v h'=>h'=h→∀ v',VR ρ v v'→Q v' s) (EXQ Rz f hid ρ l E)):wpAny (model Γ.prog Γ.w) f.A (eval e f.env) Q E s:=by
 replace hm:=Ar hm
 refine Oz.z fun ζ η=>?_
 obtain⟨_,_,rfl,hm⟩:=hm
 refine η ?_
 ·simp only [Oz.g5,beq_iff_eq] at hm
  obtain⟨hk,hd⟩:=hm
  have p:aw (match l[k]? with | some (some v)=>R.ok v h | _=>R.err) (fun v h'=>h'=h→∀ v',VR ρ v v'→Q v' s) (EXQ Rz f hid ρ l E):=p
  cases hv:l[k]? with
  | none=>rw [hv] at p; exact p.elim
  | some o =>
   cases o with
   | none=>rw [hv] at p; exact p.elim
   | some v =>
    rw [hv] at p
    exact wpAny_Name (t.read ok.toFmOk hk hv fun v' vr=>p rfl _ vr) hd
theorem B7 {k:Nat}:bg Γ Rz cl n (.loc k):=fun f e ok hm hid ρ l h s Q E t p =>
 G3 ok hm t (p.mono (fun v h' q e v' vr=>by subst e; exact q _ _ _ (Oz.g7 _) t vr) fun ζ ζ x=>x)
theorem G8 {op:Op}{a b:CE}(ha:bg Γ Rz cl n a) (hb:bg Γ Rz cl n b):bg Γ Rz cl n (.bin op a b):=by
 intro f e ok hm hid ρ l h s Q E t p
 replace hm:=Av hm
 refine Oz.z fun ζ η=>?_
 obtain⟨_,_,_,_,rfl,hm⟩:=hm
 refine η ?_
 ·simp only [Oz.g5,beq_iff_eq] at hm
  obtain⟨⟨rfl,m1⟩,m2⟩:=hm
  refine wpAny_BinOp (ha f _ ok m1 hid ρ l h s _ E t (p.thenE fun x h1 p1 v' ρ1 s1 pre1 t1 vr1=>?_))
  refine hb f _ ok m2 hid ρ1 l h1 s1 _ E t1 ((bq.mp p1).mono (fun y h2 p2 w' ρ2 s2 pre2 t2 vr2=>?_) fun ζ ζ x=>x.ext pre1)
  exact Jr t2 (vr1.mono pre2) vr2 (p2.mono (fun ζ ζ q=>q.ext (pre1.trans pre2)) fun ζ ζ q=>q)
theorem Jm {a:CE}(ha:bg Γ Rz cl n a):bg Γ Rz cl n (.neg a):=by
 intro f e ok hm hid ρ l h s Q E t p
 replace hm:=Aq hm
 refine Oz.z fun ζ η=>?_
 obtain⟨_,_,rfl,hm⟩:=hm
 refine η ?_
 ·refine UnaryOp_ (ha f _ ok hm hid ρ l h s _ E t (p.thenE fun x h1 p1 v' ρ1 s1 pre1 t1 vr1=>?_))
  cases x with
  | int i=>obtain⟨u,rfl⟩:=vr1; exact PyProof.Rows.neg_int (p1 _ _ _ pre1 (t1.toks _) ⟨_,rfl⟩)
  | _=>exact p1.elim
theorem Jl {a:CE}(ha:ic Γ Rz cl n a) (hv:bg Γ Rz cl n a):bg Γ Rz cl n (.not a)∧ic Γ Rz cl n (.not a):=by
 refine⟨fun f e ok hm hid ρ l h s Q E t p=>?_,fun f e ok hm hid ρ l h s Q E t p=>?_⟩
 ·replace hm:=Ao hm
  refine Oz.z fun ζ η=>?_
  obtain⟨_,_,rfl,hm⟩:=hm
  refine η ?_
  ·refine UnaryOp_ (hv f _ ok hm hid ρ l h s _ E t (p.thenE fun x h1 p1 v' ρ1 s1 pre1 t1 vr1=>not_of ?_))
   cases x with
   | bool b=>cases vr1; exact wpAny_truthy_bool (p1 _ _ _ pre1 t1 rfl)
   | _=>exact p1.elim
 ·replace hm:=Ao hm
  refine Oz.z fun ζ1 η1=>?_
  obtain⟨_,_,rfl,hm⟩:=hm
  refine η1 ?_
  ·refine isTrue_not (ha f _ ok hm hid ρ l h s _ E t (p.thenE fun x h1 p1=>?_))
   cases hx:truthy x with
   | none=>rw [hx] at p1; exact p1.elim
   | some b =>
    rw [hx] at p1
    obtain⟨c,e1,q⟩:=p1
    cases e1
    exact⟨b,hx,q⟩
theorem Jt {a b:CE}(ha:bg Γ Rz cl n a∧ic Γ Rz cl n a) (hb:bg Γ Rz cl n b∧ic Γ Rz cl n b):bg Γ Rz cl n (.and a b)∧ic Γ Rz cl n (.and a b):=by
 have goV:∀ (f:Fm) (e₁ e₂:Expr) (rest:List Expr) (pos:Pos),FmK n f→mtE Γ.tx f.sc a e₁=true→(∀ hid ρ l h s Q E,At Γ f hid ρ l h s →
   aw (ev Γ.G cl b l h) (OKQ Γ f hid ρ l Q) (EXQ Rz f hid ρ l E)→wpAny (model Γ.prog Γ.w) f.A (eval (.BoolOp .And (e₂::rest) pos) f.env) Q E s)→∀ hid ρ l h s Q E,At Γ f hid ρ l h s →
   aw (ev Γ.G cl (.and a b) l h) (OKQ Γ f hid ρ l Q) (EXQ Rz f hid ρ l E)→wpAny (model Γ.prog Γ.w) f.A (eval (.BoolOp .And (e₁::e₂::rest) pos) f.env) Q E s:=by
  intro f e₁ e₂ rest pos ok m1 m2 hid ρ l h s Q E t p
  refine BoolOp_and (ha.1 f _ ok m1 hid ρ l h s _ E t (p.thenE fun x h1 p1 v' ρ1 s1 pre1 t1 vr1=>?_))
  cases x with
  | bool c =>
   cases vr1
   cases c with
   | true=>exact wpAny_truthy_bool (by rw [if_pos rfl]; exact m2 hid ρ1 l h1 s1 _ E t1 (aw.mono p1 (fun ζ ζ q=>q.ext pre1) fun ζ ζ q=>q.ext pre1))
   | false=>exact wpAny_truthy_bool (by rw [if_neg (by decide)]; exact p1 _ _ _ pre1 t1 rfl)
  | _=>exact p1.elim
 have goT:∀ (f:Fm) (e₁:Expr) (rest:List Expr) (pos:Pos) (whole:Sem Value),FmK n f→mtE Γ.tx f.sc a e₁=true→(∀ hid ρ l h s Q E,At Γ f hid ρ l h s →
   aw (ev Γ.G cl b l h) (OKB Γ f hid ρ l Q) (EXQ Rz f hid ρ l E)→wpAny (model Γ.prog Γ.w) f.A (isTrue (.BoolOp .And rest pos) f.env whole) Q E s)→∀ hid ρ l h s Q E,At Γ f hid ρ l h s →
   aw (ev Γ.G cl (.and a b) l h) (OKB Γ f hid ρ l Q) (EXQ Rz f hid ρ l E)→wpAny (model Γ.prog Γ.w) f.A (isTrue (.BoolOp .And (e₁::rest) pos) f.env whole) Q E s:=by
  intro f e₁ rest pos whole ok m1 m2 hid ρ l h s Q E t p
  refine isTrue_and (ha.2 f _ ok m1 hid ρ l h s _ E t (p.thenE fun x h1 p1=>?_))
  cases hx:truthy x with
  | none=>rw [hx] at p1; exact p1.elim
  | some c =>
   rw [hx] at p1
   refine⟨c,hx,fun ρ1 s1 pre1 t1=>?_⟩
   cases c with
   | true=>rw [if_pos rfl]; exact m2 hid ρ1 l h1 s1 _ E t1 (aw.mono p1 (fun ζ ζ q=>q.ext pre1) fun ζ ζ q=>q.ext pre1)
   | false =>
    rw [if_neg (by decide)]
    obtain⟨d,e1,q⟩:=p1
    rw [hx] at e1; cases e1
    exact q _ _ pre1 t1
 refine⟨fun f e ok hm hid ρ l h s Q E t p=>?_,fun f e ok hm hid ρ l h s Q E t p=>?_⟩
 ·replace hm:=Aw hm
  rcases hm with ⟨_,_,_,rfl,hm⟩ | ⟨_,_,_,_,_,rfl,hm⟩
  ·simp only [Oz.g5] at hm
   exact goV f _ _ [] _ ok hm.1 (fun hid ρ l h s Q E t p=>BoolOp_one (hb.1 f _ ok hm.2 hid ρ l h s Q E t p)) hid ρ l h s Q E t p
  ·simp only [Oz.g5] at hm
   exact goV f _ _ (_::_) _ ok hm.1 (fun hid ρ l h s Q E t p=>hb.1 f _ ok hm.2 hid ρ l h s Q E t p) hid ρ l h s Q E t p
 ·replace hm:=Aw hm
  rcases hm with ⟨_,_,_,rfl,hm⟩ | ⟨_,_,_,_,_,rfl,hm⟩
  ·simp only [Oz.g5] at hm
   refine goT f _ [_] _ _ ok hm.1 (fun hid ρ l h s Q E t p=>isTrue_and (hb.2 f _ ok hm.2 hid ρ l h s _ E t (p.mono (fun v h' q=>?_) fun ζ ζ x=>x))) hid ρ l h s Q E t p
   obtain⟨c,e1,q⟩:=q
   refine⟨c,e1,fun ρ1 s1 pre1 t1=>?_⟩
   cases c with
   | true=>rw [if_pos rfl]; exact isTrue_and_nil (q _ _ pre1 t1)
   | false=>rw [if_neg (by decide)]; exact q _ _ pre1 t1
  ·simp only [Oz.g5] at hm
   exact goT f _ (_::_::_) _ _ ok hm.1 (fun hid ρ l h s Q E t p=>hb.2 f _ ok hm.2 hid ρ l h s Q E t p) hid ρ l h s Q E t p
theorem Lm {a b:CE}(ha:bg Γ Rz cl n a∧ic Γ Rz cl n a) (hb:bg Γ Rz cl n b∧ic Γ Rz cl n b):bg Γ Rz cl n (.or a b)∧ic Γ Rz cl n (.or a b):=by
 have goV:∀ (f:Fm) (e₁ e₂:Expr) (rest:List Expr) (pos:Pos),FmK n f→mtE Γ.tx f.sc a e₁=true→(∀ hid ρ l h s Q E,At Γ f hid ρ l h s →
   aw (ev Γ.G cl b l h) (OKQ Γ f hid ρ l Q) (EXQ Rz f hid ρ l E)→wpAny (model Γ.prog Γ.w) f.A (eval (.BoolOp .Or (e₂::rest) pos) f.env) Q E s)→∀ hid ρ l h s Q E,At Γ f hid ρ l h s →
   aw (ev Γ.G cl (.or a b) l h) (OKQ Γ f hid ρ l Q) (EXQ Rz f hid ρ l E)→wpAny (model Γ.prog Γ.w) f.A (eval (.BoolOp .Or (e₁::e₂::rest) pos) f.env) Q E s:=by
  intro f e₁ e₂ rest pos ok m1 m2 hid ρ l h s Q E t p
  refine BoolOp_or (ha.1 f _ ok m1 hid ρ l h s _ E t (p.thenE fun x h1 p1 v' ρ1 s1 pre1 t1 vr1=>?_))
  cases x with
  | bool c =>
   cases vr1
   cases c with
   | false=>exact wpAny_truthy_bool (by rw [if_neg (by decide)]; exact m2 hid ρ1 l h1 s1 _ E t1 (aw.mono p1 (fun ζ ζ q=>q.ext pre1) fun ζ ζ q=>q.ext pre1))
   | true=>exact wpAny_truthy_bool (by rw [if_pos rfl]; exact p1 _ _ _ pre1 t1 rfl)
  | _=>exact p1.elim
 have goT:∀ (f:Fm) (e₁:Expr) (rest:List Expr) (pos:Pos) (whole:Sem Value),FmK n f→mtE Γ.tx f.sc a e₁=true→(∀ hid ρ l h s Q E,At Γ f hid ρ l h s →
   aw (ev Γ.G cl b l h) (OKB Γ f hid ρ l Q) (EXQ Rz f hid ρ l E)→wpAny (model Γ.prog Γ.w) f.A (isTrue (.BoolOp .Or rest pos) f.env whole) Q E s)→∀ hid ρ l h s Q E,At Γ f hid ρ l h s →
   aw (ev Γ.G cl (.or a b) l h) (OKB Γ f hid ρ l Q) (EXQ Rz f hid ρ l E)→wpAny (model Γ.prog Γ.w) f.A (isTrue (.BoolOp .Or (e₁::rest) pos) f.env whole) Q E s:=by
  intro f e₁ rest pos whole ok m1 m2 hid ρ l h s Q E t p
  refine isTrue_or (ha.2 f _ ok m1 hid ρ l h s _ E t (p.thenE fun x h1 p1=>?_))
  cases hx:truthy x with
  | none=>rw [hx] at p1; exact p1.elim
  | some c =>
   rw [hx] at p1
   refine⟨c,hx,fun ρ1 s1 pre1 t1=>?_⟩
   cases c with
   | false=>rw [if_neg (by decide)]; exact m2 hid ρ1 l h1 s1 _ E t1 (aw.mono p1 (fun ζ ζ q=>q.ext pre1) fun ζ ζ q=>q.ext pre1)
   | true =>
    rw [if_pos rfl]
    obtain⟨d,e1,q⟩:=p1
    rw [hx] at e1; cases e1
    exact q _ _ pre1 t1
 refine⟨fun f e ok hm hid ρ l h s Q E t p=>?_,fun f e ok hm hid ρ l h s Q E t p=>?_⟩
 ·replace hm:=De hm
  rcases hm with ⟨_,_,_,rfl,hm⟩ | ⟨_,_,_,_,_,rfl,hm⟩
  ·simp only [Oz.g5] at hm
   exact goV f _ _ [] _ ok hm.1 (fun hid ρ l h s Q E t p=>BoolOp_one (hb.1 f _ ok hm.2 hid ρ l h s Q E t p)) hid ρ l h s Q E t p
  ·simp only [Oz.g5] at hm
   exact goV f _ _ (_::_) _ ok hm.1 (fun hid ρ l h s Q E t p=>hb.1 f _ ok hm.2 hid ρ l h s Q E t p) hid ρ l h s Q E t p
 ·replace hm:=De hm
  rcases hm with ⟨_,_,_,rfl,hm⟩ | ⟨_,_,_,_,_,rfl,hm⟩
  ·simp only [Oz.g5] at hm
   refine goT f _ [_] _ _ ok hm.1 (fun hid ρ l h s Q E t p=>isTrue_or (hb.2 f _ ok hm.2 hid ρ l h s _ E t (p.mono (fun v h' q=>?_) fun ζ ζ x=>x))) hid ρ l h s Q E t p
   obtain⟨c,e1,q⟩:=q
   refine⟨c,e1,fun ρ1 s1 pre1 t1=>?_⟩
   cases c with
   | true=>rw [if_pos rfl]; exact q _ _ pre1 t1
   | false=>rw [if_neg (by decide)]; exact isTrue_or_nil (q _ _ pre1 t1)
  ·simp only [Oz.g5] at hm
   exact goT f _ (_::_::_) _ _ ok hm.1 (fun hid ρ l h s Q E t p=>hb.2 f _ ok hm.2 hid ρ l h s Q E t p) hid ρ l h s Q E t p
end
end Sk
namespace Sk
open PySem PySem.Calls PySem.W PyProof.Rows PySem.Spec
theorem nc {tx:Tx}{sc:Sc}{c:CE}{e:Expr}(h:mtE tx sc c e=true) (r:List Expr) (env:Env):starEach (e::r) env=(false,eval e env)::starEach r env:=by
 have h:=km h
 cases e with
 | Starred v p=>exact ba h
 | _=>rfl
theorem bv {tx:Tx}{sc:Sc}(pos:Pos) (env:Env):∀ {cs:CEs}{es:List Expr},mtEs tx sc cs es=true→(backTo pos (starEach es env)).any (·.1)=false:=by
 intro cs es
 induction es generalizing cs with
 | nil=>exact fun ζ=>rfl
 | cons e r ih =>
  intro h
  cases cs with
  | nil=>exact ba h
  | cons c cs =>
   obtain⟨h1,h2⟩:=Oz.g14.mp h
   rw [nc h1]
   show(false||(backTo pos (starEach r env)).any (·.1))=false
   rw [ih h2]; rfl
section
variable {Γ:Cx}{Rz:Rise}{cl:CallO}{n:Nat}{f:Fm}{hid:List (Addr×Obj)}{ρ ρ' : List Addr}{l:LOC}{h:HP}{s:Shared}{E:Value→Shared→Prop}{M:Model}
theorem At.glob (t:At Γ f hid ρ l h s) (ok:FmOk f) (cx:CxOk Γ){x:Str}{v:Value}{pos:Pos}{Q:Value→Shared→Prop}(hg:glb f.sc x=true) (hv:Γ.mg x=some v) (hq:Q v s):wpAny M f.A (eval (.Name x pos) f.env) Q E s:=by
 unfold glb at hg
 simp only [Oz.g5,beq_iff_eq] at hg
 exact Name_function_global ok.kind hg.1 (loadGlobal_global (by rw [ok.glob]; exact cx.g.keeps t.keepBase) hv hq) (by simpa using hg.2)
theorem At.blt (t:At Γ f hid ρ l h s) (ok:FmOk f) (cx:CxOk Γ) (cf:CxFn Γ){x:Str}{v:Value}{pos:Pos}{Q:Value→Shared→Prop}(hg:glb f.sc x=true) (hx:x∈bltNames) (hn:x ≠ "__name__") (hv:bootBuiltins x=some v) (hq:Q v s):wpAny M f.A (eval (.Name x pos) f.env) Q E s:=by
 unfold glb at hg
 simp only [Oz.g5,beq_iff_eq] at hg
 exact Name_function_global ok.kind hg.1 (loadGlobal_builtin (by rw [ok.glob]; exact cx.g.keeps t.keepBase) (cf.blt x hx) (by rw [ok.blt]; exact cx.b.keeps t.keepBase) ((cx.bts x hn).trans hv) hq) (by simpa using hg.2)
theorem Hd:ji Γ Rz cl n .nil:=by
 intro f es pos ok hm hid ρ l h s Q E t p
 cases es with
 | nil=>exact spliced_nil (p _ _ _ (Oz.g7 _) t .nil)
 | cons _ _=>exact ba hm
theorem Eu {c:CE}{cs:CEs}(hc:bg Γ Rz cl n c) (hcs:ji Γ Rz cl n cs):ji Γ Rz cl n (.cons c cs):=by
 intro f es pos ok hm hid ρ l h s Q E t p
 cases es with
 | nil=>exact ba hm
 | cons e r =>
  replace hm:=Oz.g14.mp hm
  rw [nc hm.1]
  refine spliced_cons (hc f e ok hm.1 hid ρ l h s _ E t (p.thenE fun x h1 p1 v' ρ1 s1 pre1 t1 vr1=>?_))
  refine hcs f r pos ok hm.2 hid ρ1 l h1 s1 _ E t1 ((bq.mp p1).mono (fun ys h2 p2 ws ρ2 s2 pre2 t2 vr2=>?_) fun ζ ζ x=>x.ext pre1)
  exact p2 _ _ _ (pre1.trans pre2) t2 (.cons (vr1.mono pre2) vr2)
theorem G6 {op:COp}{a b:CE}(ha:bg Γ Rz cl n a) (hb:bg Γ Rz cl n b):bg Γ Rz cl n (.cmp op a b)∧ic Γ Rz cl n (.cmp op a b):=by
 have core:∀ (f:Fm) (l₁ r₁:Expr),FmK n f→mtE Γ.tx f.sc a l₁=true→mtE Γ.tx f.sc b r₁=true→∀ hid ρ l h s Q E,At Γ f hid ρ l h s→aw (ev Γ.G cl (.cmp op a b) l h) (OKQ Γ f hid ρ l Q) (EXQ Rz f hid ρ l E) →
   wpAny (model Γ.prog Γ.w) f.A (eval l₁ f.env) (fun a s₁=>wpAny (model Γ.prog Γ.w) f.A (eval r₁ f.env) (fun b s₂=>wpAny (model Γ.prog Γ.w) f.A (compareOp (oq op) a b) Q E s₂) E s₁) E s:=by
  intro f l₁ r₁ ok m1 m2 hid ρ l h s Q E t p
  refine ha f _ ok m1 hid ρ l h s _ E t (p.thenE fun x h1 p1 v' ρ1 s1 pre1 t1 vr1=>?_)
  refine hb f _ ok m2 hid ρ1 l h1 s1 _ E t1 ((bq.mp p1).mono (fun y h2 p2 w' ρ2 s2 pre2 t2 vr2=>?_) fun ζ ζ x=>x.ext pre1)
  exact ph t2 (by have:=ok.units; exact Oz.o628 this) (vr1.mono pre2) vr2 (p2.mono (fun ζ ζ q=>q.ext (pre1.trans pre2)) fun ζ ζ q=>q)
 refine⟨fun f e ok hm hid ρ l h s Q E t p=>?_,fun f e ok hm hid ρ l h s Q E t p=>?_⟩
 all_goals
  replace hm:=Ff hm
  refine Oz.z fun ζ η=>?_
  obtain⟨_,_,_,_,rfl,hm⟩:=hm
  refine η ?_
  ·simp only [Oz.g5,beq_iff_eq] at hm
   refine Oz.z fun ζ1 η1=>?_
   obtain⟨⟨⟨rfl,m1⟩,m2⟩,m3⟩:=hm
   refine η1 ?_
   first
    |exact wpAny_Compare1 (core f _ _ ok m1 m2 hid ρ l h s Q E t p) m3
    |exact wpAny_isTrue_Compare1 (core f _ _ ok m1 m2 hid ρ l h s _ E t (p.mono (fun ζ ζ q=>OKB.toQ q) fun ζ ζ x=>x)) m3
theorem Eh {neg:Bool}{a b:CE}(cx:CxOk Γ) (cf:CxFn Γ) (ha:bg Γ Rz cl n a) (hb:bg Γ Rz cl n b):bg Γ Rz cl n (.isin neg a b)∧ic Γ Rz cl n (.isin neg a b):=by
 have core:∀ (f:Fm) (l₁ r₁:Expr),FmK n f→mtE Γ.tx f.sc a l₁=true→mtE Γ.tx f.sc b r₁=true→∀ hid ρ l h s Q E,At Γ f hid ρ l h s→aw (ev Γ.G cl (.isin neg a b) l h) (OKQ Γ f hid ρ l Q) (EXQ Rz f hid ρ l E) →
   wpAny (model Γ.prog Γ.w) f.A (eval l₁ f.env) (fun a s₁=>wpAny (model Γ.prog Γ.w) f.A (eval r₁ f.env) (fun b s₂=>wpAny (model Γ.prog Γ.w) f.A (compareOp (if neg then .NotIn else .In) a b) Q E s₂) E s₁) E s:=by
  intro f l₁ r₁ ok m1 m2 hid ρ l h s Q E t p
  refine ha f _ ok m1 hid ρ l h s _ E t (p.thenE fun x h1 p1 v' ρ1 s1 pre1 t1 vr1=>?_)
  refine hb f _ ok m2 hid ρ1 l h1 s1 _ E t1 ((bq.mp p1).mono (fun y h2 p2 w' ρ2 s2 pre2 t2 vr2=>?_) fun ζ ζ x=>x.ext pre1)
  exact Lo t2 cx cf.sysm (vr1.mono pre2) vr2 (p2.mono (fun ζ ζ q=>q.ext (pre1.trans pre2)) fun ζ ζ q=>q)
 refine⟨fun f e ok hm hid ρ l h s Q E t p=>?_,fun f e ok hm hid ρ l h s Q E t p=>?_⟩
 all_goals
  replace hm:=Ci hm
  refine Oz.z fun ζ η=>?_
  obtain⟨_,_,_,_,rfl,hm⟩:=hm
  refine η ?_
  ·simp only [Oz.g5,beq_iff_eq] at hm
   refine Oz.z fun ζ1 η1=>?_
   obtain⟨⟨⟨rfl,m1⟩,m2⟩,m3⟩:=hm
   refine η1 ?_
   first
    |exact wpAny_Compare1 (core f _ _ ok m1 m2 hid ρ l h s Q E t p) m3
    |exact wpAny_isTrue_Compare1 (core f _ _ ok m1 m2 hid ρ l h s _ E t (p.mono (fun ζ ζ q=>OKB.toQ q) fun ζ ζ x=>x)) m3
theorem Jo {neg:Bool}{a:CE}{c:Option Bool}(ha:bg Γ Rz cl n a):bg Γ Rz cl n (.isC neg a c)∧ic Γ Rz cl n (.isC neg a c):=by
 have core:∀ (f:Fm) (l₁:Expr) (k:Const) (i:Nat) (pos:Pos),FmK n f→mtE Γ.tx f.sc a l₁=true→kk k c=true→∀ hid ρ l h s Q E,At Γ f hid ρ l h s→aw (ev Γ.G cl (.isC neg a c) l h) (OKQ Γ f hid ρ l Q) (EXQ Rz f hid ρ l E) →
   wpAny (model Γ.prog Γ.w) f.A (eval l₁ f.env) (fun a s₁=>wpAny (model Γ.prog Γ.w) f.A (eval (.Constant k i pos) f.env) (fun b s₂=>wpAny (model Γ.prog Γ.w) f.A (compareOp (if neg then .IsNot else .Is) a b) Q E s₂) E s₁) E s:=by
  intro f l₁ k i pos ok m1 m2 hid ρ l h s Q E t p
  refine ha f _ ok m1 hid ρ l h s _ E t (p.thenE fun x h1 p1 v' ρ1 s1 pre1 t1 vr1=>?_)
  have q:=Ln (E:=E) t1 vr1 (p1.mono (fun ζ ζ q=>OKQ.ext pre1 q) fun ζ ζ q=>q)
  cases c with
  | none =>
   cases k with
   | none=>exact Constant_none q
   | _=>exact ba m2
  | some d =>
   cases k with
   | bool b=>cases eq_of_beq m2; exact Constant_bool q
   | _=>exact ba m2
 refine⟨fun f e ok hm hid ρ l h s Q E t p=>?_,fun f e ok hm hid ρ l h s Q E t p=>?_⟩
 all_goals
  replace hm:=Fe hm
  refine Oz.z fun ζ η=>?_
  obtain⟨_,_,_,_,_,_,rfl,hm⟩:=hm
  refine η ?_
  ·rw [Oz.g5,Oz.g5,beq_iff_eq] at hm
   obtain⟨⟨rfl,m1⟩,m2⟩:=hm
   first
    |exact wpAny_Compare1 (core f _ _ _ _ ok m1 m2 hid ρ l h s Q E t p) (by cases neg <;> rfl)
    |exact wpAny_isTrue_Compare1 (core f _ _ _ _ ok m1 m2 hid ρ l h s _ E t (p.mono (fun ζ ζ q=>OKB.toQ q) fun ζ ζ x=>x)) (by cases neg <;> rfl)
theorem Ek {a b c:CE}{o₁ o₂:COp}(ha:bg Γ Rz cl n a) (hb:bg Γ Rz cl n b) (hc:bg Γ Rz cl n c):bg Γ Rz cl n (.chain a o₁ b o₂ c)∧ic Γ Rz cl n (.chain a o₁ b o₂ c):=by
 refine⟨fun f e ok hm hid ρ l h s Q E t p=>?_,fun f e ok hm hid ρ l h s Q E t p=>?_⟩
 all_goals
  replace hm:=Au hm
  refine Oz.z fun ζ η=>?_
  obtain⟨_,_,_,_,_,_,rfl,hm⟩:=hm
  refine η ?_
  ·simp only [Oz.g5,beq_iff_eq] at hm
   refine Oz.z fun ζ1 η1=>?_
   obtain⟨⟨⟨⟨⟨rfl,rfl⟩,m1⟩,m2⟩,m3⟩,m4⟩:=hm
   refine η1 ?_
   have hu:f.A.units+6<cLine:=by have:=ok.units; exact Oz.o628 this
   first
    |refine Compare_chain (ha f _ ok m1 hid ρ l h s _ E t (p.thenE fun x h1 p1 v' ρ1 s1 pre1 t1 vr1=>?_)) m4
     refine chain_link (hb f _ ok m2 hid ρ1 l h1 s1 _ E t1 ((bq.mp p1).mono (fun y h2 p2 w' ρ2 s2 pre2 t2 vr2=>?_) fun ζ ζ x=>x.ext pre1))
     refine ph (ex:=EXQ Rz f hid ρ l E) t2 hu (vr1.mono pre2) vr2 ((bq.mp p2).mono (fun r h3 p3 r' ρ3 s3 pre3 t3 vr3=>?_) fun ζ ζ q=>q)
     cases r with
     | bool d =>
      cases vr3
      refine wpAny_truthy_bool ?_
      cases d with
      | true =>
       rw [if_pos rfl]
       have pre:=(pre1.trans pre2).trans pre3
       refine chain_last (hc f _ ok m3 hid ρ3 l h3 s3 _ E t3 ((bq.mp p3).mono (fun z h4 p4 z' ρ4 s4 pre4 t4 vr4=>?_) fun ζ ζ x=>x.ext pre))
       exact ph t4 hu ((vr2.mono pre3).mono pre4) vr4 (p4.mono (fun ζ ζ q=>q.ext (pre.trans pre4)) fun ζ ζ q=>q)
      | false=>rw [if_neg (by decide)]; exact p3 _ _ _ ((pre1.trans pre2).trans pre3) t3 rfl
     | _=>exact p3.elim
    |refine isTrue_chain (ha f _ ok m1 hid ρ l h s _ E t (p.thenE fun x h1 p1 v' ρ1 s1 pre1 t1 vr1=>?_)) m4
     refine test_link (hb f _ ok m2 hid ρ1 l h1 s1 _ E t1 ((bq.mp p1).mono (fun y h2 p2 w' ρ2 s2 pre2 t2 vr2=>?_) fun ζ ζ x=>x.ext pre1))
     refine ph (ex:=EXQ Rz f hid ρ l E) t2 hu (vr1.mono pre2) vr2 ((bq.mp p2).mono (fun r h3 p3 r' ρ3 s3 pre3 t3 vr3=>?_) fun ζ ζ q=>q)
     cases r with
     | bool d =>
      cases vr3
      refine wpAny_truthy_bool ?_
      cases d with
      | true =>
       rw [if_pos rfl]
       have pre:=(pre1.trans pre2).trans pre3
       refine test_last (hc f _ ok m3 hid ρ3 l h3 s3 _ E t3 ((bq.mp p3).mono (fun z h4 p4 z' ρ4 s4 pre4 t4 vr4=>?_) fun ζ ζ x=>x.ext pre))
       exact ph t4 hu ((vr2.mono pre3).mono pre4) vr4 (p4.mono (fun ζ ζ q=>OKQ.ext (pre.trans pre4) (OKB.toQ q)) fun ζ ζ q=>q)
      | false =>
       rw [if_neg (by decide)]
       obtain⟨e,e1,q⟩:=p3
       cases e1
       exact q _ _ ((pre1.trans pre2).trans pre3) t3
     | _=>exact p3.elim
end
end Sk
namespace Sk
open PySem PySem.Calls PySem.W PyProof.Rows PySem.Spec
theorem zc {o:Expr}(h:j6 o=true) (x:Str) (env:Env) (whole:Sem Value):attributeBase o x env whole=whole:=by
 cases o <;> first | rfl | cases h
theorem Gh {prog:Program}{w:World}{A:Around}{E:Value→Shared→Prop}{s:Shared}{env:Env}{value:Expr}{attr:Str}{pos:Pos}{Q:Value→Shared→Prop}(hb:j6 value=true)
  (h:wpAny (model prog w) A (eval value env) (fun o s₁=>wpAny (model prog w) A (getAttr o attr true) Q E s₁) E s):wpAny (model prog w) A (eval (.Attribute value attr pos) env) Q E s:=by
 rw [arm_eval_Attribute,zc hb]
 refine wpAny_bind (wpAny_mono h (fun o s₁ h₁=>wpAny_bind (wpAny_standAt (wpAny_bind (wpAny_holding (wpAny_mono h₁ (fun r s₂ h₂=>?_) fun ζ ζ y=>y))))) fun ζ ζ y=>y)
 exact wpAny_bind (wpAny_letTemporaryGo (wpAny_pure h₂))
theorem yx {M:Model}{A:Around}{E:Value→Shared→Prop}{s:Shared}{env:Env}{o:Expr}{x:Str}{apos pos:Pos}{args:List Expr}{Q:Value→Shared→Prop}(hb:j6 o=true)
  (hplain:(backTo pos (starEach args env)).any (·.1)=false) (hfew:args.length<30) (hline:(apos.endLine == pos.line)=true)
  (h:wpAny M A (eval o env) (fun ov s₁=>wpAny M A (getMethod ov x (do return (← importBound o env).getD true)) (fun fx s₂=>wpAny M A (callWith pos fx.1 fx.2 (backTo pos (starEach args env)) []) Q E s₂) E s₁) E s) :
  wpAny M A (eval (.Call (.Attribute o x apos) args [] pos) env) Q E s:=by
 rw [arm_eval_Call,zc hb]
 refine wpAny_bind (wpAny_mono h (fun ov s₁ h₁=>wpAny_bind (wpAny_standAt ?_)) fun ζ ζ y=>y)
 have hform:methodCallForm (args.length+([]:List Keyword).length) (backTo pos (starEach args env)) (backToKw pos (keywordEach [] env))=true:=by
  unfold methodCallForm
  have:(backTo pos (starEach args env)).all (fun x=>!x.1)=true:=by
   rw [List.all_eq_not_any_not]
   simp only [Bool.not_not]
   rw [hplain]; rfl
  rw [this]
  show(true&&true&&decide (args.length+0+0<30))=true
  simp; exact Oz.o610 hfew
 have hpos:methodCallPos true o env apos pos=pure pos:=by unfold methodCallPos; simp [hline]
 unfold methodCall
 rw [hform]
 show wpAny M A (holding [ov] (getMethod ov x (do return (← importBound o env).getD true)) >>= _) Q E s₁
 refine wpAny_bind (wpAny_holding (wpAny_mono h₁ (fun fx s₂ h₂=>?_) fun ζ ζ y=>y))
 exact wpAny_bind (wpAny_of_eq hpos h₂)
theorem cu {M:Model}{A:Around}{E:Value→Shared→Prop}{s:Shared}{g:Value}{trees:List (Bool×Sem Value)}{Q:Args→Shared→Prop}(hplain:trees.any (·.1)=false)
  (h:wpAny M A (spliced trees) (fun vs s'=>Q ⟨vs,[]⟩ s') E s):wpAny M A (evalArgs g true trees []) Q E s:=by
 cases trees with
 | nil =>
  unfold evalArgs
  show wpAny M A (spliced [] >>= _) Q E s
  refine wpAny_bind (wpAny_mono h (fun vs s' h'=>wpAny_bind (wpAny_pure ?_)) fun ζ ζ x=>x)
  refine wpAny_holding ?_
  exact wpAny_bind (wpAny_pure (wpAny_bind (wpAny_pure (wpAny_pure h'))))
 | cons p r =>
  obtain⟨b,x⟩:=p
  have:b=false:=by
   cases b with
   | false=>rfl
   | true=>simp at hplain
  subst this
  exact evalArgs_plain h
theorem Df {tx:Tx}{sc:Sc}{c:CE}{e:Expr}(h:mtE tx sc c e=true) (o i:Value):subscripted e false o i=operate [o,i] (getItem o i):=by
 have h:=km h
 cases e with
 | Slice a b d p=>exact ba h
 | _=>rfl
theorem mj {ρ:List Addr}{vs:List AV}{vs' : List Value}(hv:VRs ρ vs vs'):∀ idx:List Nat,VRs ρ (idx.filterMap (vs[·]?)) (idx.filterMap (vs'[·]?))
 | []=>.nil
 | i::r=>by
  rw [List.filterMap_cons,List.filterMap_cons]
  cases q:vs[i]? with
  | none =>
   have:vs'[i]?=none:=by rw [List.getElem?_eq_none_iff] at q ⊢; rw [hv.length]; exact q
   rw [this]; exact mj hv r
  | some a =>
   obtain⟨v,e1,e2⟩:=hv.get q
   rw [e1]; exact .cons e2 (mj hv r)
theorem yq {ρ:List Addr}{v:AV}{v' : Value}{k:Option Int}(h:VR ρ v v') (e:gv v=some k):IsPart v' k:=by
 cases v with
 | none=>cases h; cases e; exact .none
 | int i=>obtain⟨t,rfl⟩:=h; cases e; exact .int _ _
 | _=>cases e
section
variable {Γ:Cx}{Rz:Rise}{cl:CallO}{n:Nat}{f:Fm}{hid:List (Addr×Obj)}{ρ ρ' : List Addr}{l:LOC}{h:HP}{s:Shared}{E:Value→Shared→Prop}{M:Model}
theorem En {a:CE}{k:Nat}(cx:CxOk Γ) (ha:bg Γ Rz cl n a):bg Γ Rz cl n (.attr a k):=by
 intro f e ok hm hid ρ l h s Q E t p
 replace hm:=xf hm
 refine Oz.z fun ζ η=>?_
 obtain⟨_,_,_,rfl,hm⟩:=hm
 refine η ?_
 ·simp only [Oz.g5,beq_iff_eq] at hm
  obtain⟨⟨hx,hb⟩,m1⟩:=hm
  refine Gh hb (ha f _ ok m1 hid ρ l h s _ E t (p.thenE fun x h1 p1 v' ρ1 s1 pre1 t1 vr1=>?_))
  exact G9 t1 cx hx vr1 (p1.mono (fun ζ ζ q=>q.ext pre1) fun ζ ζ q=>q)
theorem Eg {a i:CE}(ha:bg Γ Rz cl n a) (hi:bg Γ Rz cl n i):bg Γ Rz cl n (.item a i):=by
 intro f e ok hm hid ρ l h s Q E t p
 replace hm:=w7 hm
 refine Oz.z fun ζ η=>?_
 obtain⟨_,_,_,rfl,hm⟩:=hm
 refine η ?_
 ·simp only [Oz.g5] at hm
  obtain⟨m1,m2⟩:=hm
  refine Subscript_ (ha f _ ok m1 hid ρ l h s _ E t (p.thenE fun x h1 p1 v' ρ1 s1 pre1 t1 vr1=>?_))
  refine hi f _ ok m2 hid ρ1 l h1 s1 _ E t1 ((bq.mp p1).mono (fun y h2 p2 w' ρ2 s2 pre2 t2 vr2=>?_) fun ζ ζ x=>x.ext pre1)
  exact G4 t2 (vr1.mono pre2) vr2 (Df m2 _ _) (p2.mono (fun ζ ζ q=>q.ext (pre1.trans pre2)) fun ζ ζ q=>q)
set_option tactic.hygienic true in
theorem C9 {a lo hi:CE}{st:Nat}(ha:bg Γ Rz cl n a) (hlo:bg Γ Rz cl n lo) (hhi:bg Γ Rz cl n hi):bg Γ Rz cl n (.slice a lo hi st):=by
 intro f e ok hm hid ρ l h s Q E t p
 replace hm:=uw hm
 refine Oz.z fun ζ η=>?_
 obtain⟨v,lx,ux,tx',ps1,ps2,rfl,hm⟩:=hm
 refine η ?_
 ·rw [Oz.g5,Oz.g5,Oz.g5] at hm
  obtain⟨⟨⟨m1,m2⟩,m3⟩,m4⟩:=hm
  have part:∀ (c:CE) (x:Option Expr),bg Γ Rz cl n c→x.elim (A3 c) (fun y=>mtE Γ.tx f.sc c y)=true→∀ hid ρ l h s Q E,At Γ f hid ρ l h s →
    aw (ev Γ.G cl c l h) (OKQ Γ f hid ρ l Q) (EXQ Rz f hid ρ l E)→wpAny (model Γ.prog Γ.w) f.A (evalPart x f.env) Q E s:=by
   intro c x hc hx hid ρ l h s Q E t p
   cases x with
   | none =>
    cases c with
    | none=>exact wpAny_pure (p _ _ _ (Oz.g7 _) t rfl)
    | _=>exact ba hx
   | some y=>exact hc f y ok hx hid ρ l h s Q E t p
  refine Subscript_ (ha f _ ok m1 hid ρ l h s _ E t (p.thenE fun x h1 p1 v' ρ1 s1 pre1 t1 vr1=>?_))
  refine wpAny_Slice (part lo lx hlo m2 hid ρ1 l h1 s1 _ E t1 ((bq.mp p1).mono (fun y h2 p2 w' ρ2 s2 pre2 t2 vr2=>?_) fun ζ ζ x=>x.ext pre1))
  refine part hi ux hhi m3 hid ρ2 l h2 s2 _ E t2 ((bq.mp p2).mono (fun z h3 p3 z' ρ3 s3 pre3 t3 vr3=>?_) fun ζ ζ x=>x.ext (pre1.trans pre2))
  have pre:=(pre1.trans pre2).trans pre3
  have step:∃ sv:Value,∃ tk:Nat,IsPart sv (if st=0 then Option.none else some (st:Int))∧(∀ (Q' : Value→Shared→Prop),Q' sv { s3 with toks:=tk }→wpAny (model Γ.prog Γ.w) f.A (evalPart tx' f.env) Q' E s3):=by
   cases tx' with
   | none =>
    have:st=0:=eq_of_beq m4
    exact⟨.none,s3.toks,by rw [if_pos this]; exact .none,fun Q' q=>wpAny_pure q⟩
   | some c =>
    refine Oz.z fun ζ1 η1=>?_
    obtain⟨⟨k,kk,pp⟩,q1,q2⟩:=any_some m4
    obtain⟨j,q3,q4⟩:=any_some q2
    refine η1 ?_
    rw [mh q1,show k=_ from wi q3]
    simp only [Oz.g5,beq_iff_eq,bne_iff_ne] at q4
    obtain⟨rfl,h0⟩:=q4
    exact⟨.int st s3.toks,s3.toks+1,by rw [if_neg h0]; exact .int _ _,fun Q' q=>wpAny_Constant_int (k:=kk) (pos:=pp) q⟩
  obtain⟨sv,tk,hsv,hstep⟩:=step
  refine hstep _ ?_
  cases x with
  | ref i =>
   obtain⟨c,hc,rfl⟩:=vr1.mono (pre2.trans pre3)
   have go:∀ (vs:List AV) (vs' : List Value) (ol:Obj) (m:Nat),s3.heap.get? c=some ol→ol.cls=.type "list" → ol.data=.seq vs'.toArray m→VRs ρ3 vs vs'→vs.length≤200000 →
     aw (match ly vs y z st with | some ws=>if cb ws.length then R.ok (.ref h3.length) (h3++[.list ws]) else .err | Option.none=>.err) (OKQ Γ f hid ρ l Q) (EXQ Rz f hid ρ l E) →
     wpAny (model Γ.prog Γ.w) f.A (subscriptTail v (.Slice lx ux tx' ps1) (.ref c) (.ref s3.heap.objs.size)) Q E { s3 with heap:=s3.heap.push { cls:=.type "slice",data:=.fields #[w',z',sv] },toks:=tk } := by
    intro vs vs' ol m g oc od hv hz' p3
    have k1:∀ b o,s3.heap.get? b=some o→(s3.heap.push { cls:=.type "slice",data:=.fields #[w',z',sv] }).get? b=some o:=fun b o e=>Heap.get?_push_of_some _ e
    have hl:(s3.heap.push { cls:=.type "slice",data:=.fields #[w',z',sv] }).IsList c vs'.toArray:=⟨_,k1 _ _ g,oc,m,od⟩
    have p3:aw ((match gv y,gv z with | some a,some b=>some ((bz a b st vs.length).filterMap (vs[·]?)) | _,_=>Option.none:Option (List AV)).elim R.err fun ws=>if cb ws.length then R.ok (.ref h3.length) (h3++[.list ws]) else .err) (OKQ Γ f hid ρ l Q) (EXQ Rz f hid ρ l E):=by
     revert p3
     show aw (match ly vs y z st with | some ws=>_ | Option.none=>_) _ _→aw ((ly vs y z st).elim _ _) _ _
     cases ly vs y z st <;> exact id
    cases ea:gv y with
    | none=>rw [ea] at p3; exact p3.elim
    | some la =>
     cases eb:gv z with
     | none=>rw [ea,eb] at p3; exact p3.elim
     | some lb =>
      rw [ea,eb] at p3
      by_cases hz:cb ((bz la lb st vs.length).filterMap (vs[·]?)).length=true
      ·have p3:OKQ Γ f hid ρ l Q (.ref h3.length) (h3++[.list ((bz la lb st vs.length).filterMap (vs[·]?))]):=by
        have p3:aw (if cb ((bz la lb st vs.length).filterMap (vs[·]?)).length=true then R.ok (.ref h3.length) (h3++[.list ((bz la lb st vs.length).filterMap (vs[·]?))]) else .err) (OKQ Γ f hid ρ l Q) (EXQ Rz f hid ρ l E):=p3
        rw [if_pos hz] at p3; exact p3
       have hs:subscripted (.Slice lx ux tx' ps1) false (.ref c) (.ref s3.heap.objs.size)=operate (match tx' with | Option.none=>[.ref s3.heap.objs.size,.ref c] | some _=>[.ref c,.ref s3.heap.objs.size]) (getItem (.ref c) (.ref s3.heap.objs.size)):=by cases tx' <;> rfl
       refine tail_any (s := { s3 with heap:=s3.heap.push { cls:=.type "slice",data:=.fields #[w',z',sv] },toks:=tk }) (T := "list") hl.typeIs slot_list_getitem.lookup ?_ hs
       refine wpAny_getItem_list_slice (s := { s3 with heap:=s3.heap.push { cls:=.type "slice",data:=.fields #[w',z',sv] },toks:=tk }) hl (.new ..) (yq vr2 ea) (yq vr3 eb) hsv ?_ ?_ ?_
       ·split
        ·nofun
        ·rename_i h0; intro q; exact h0 (by simpa using q)
       ·have hsize:(s3.heap.push { cls:=.type "slice",data:=.fields #[w',z',sv] }).objs.size=s3.heap.objs.size+1:=Heap.size_push ..
        refine p3 _ (ρ3++[_]) _ (pre.trans (Oz.g28 _ _)) (t3.alloc (by rw [t3.sh]) (fun b o e=>Heap.get?_push_of_some _ (k1 b o e)) (by rw [hsize]; exact Nat.le_succ _) (Heap.get?_push_size _ rfl) ⟨_,0,?_,((mj hv _).mono (Oz.g28 _ _)),?_⟩) (md t3 _)
        ·show _=listOf _ 0
         unfold slicePick
         simp only [List.size_toArray,hv.length,List.getElem?_toArray]
         rfl
        ·have:=of_decide_eq_true hz; exact Oz.o559 this
       ·simp; have:=hv.length; exact Oz.g2 (Oz.o542 hz' this) (show 200000≤sizeLine by decide)
      ·have p3:aw (if cb ((bz la lb st vs.length).filterMap (vs[·]?)).length=true then R.ok (.ref h3.length) (h3++[.list ((bz la lb st vs.length).filterMap (vs[·]?))]) else .err) (OKQ Γ f hid ρ l Q) (EXQ Rz f hid ρ l E):=p3
       rw [if_neg hz] at p3; exact p3.elim
   cases ei:h3[i]? with
   | none =>
    have p3:aw (io (.ref i) y z st h3) (OKQ Γ f hid ρ l Q) (EXQ Rz f hid ρ l E):=p3
    unfold io at p3; dsimp only at p3; rw [ei] at p3; exact p3.elim
   | some ao =>
    have p3:aw (io (.ref i) y z st h3) (OKQ Γ f hid ρ l Q) (EXQ Rz f hid ρ l E):=p3
    unfold io at p3
    dsimp only at p3
    rw [ei] at p3
    cases ao with
    | list vs =>
     refine Oz.z fun ζ2 η2=>?_
     obtain⟨o,g,vs',m,rfl,hv,hz'⟩:=t3.obj i _ c ei hc
     refine η2 ?_
     exact go vs vs' _ m g rfl rfl hv hz' p3
    | const vs =>
     refine Oz.z fun ζ3 η3=>?_
     obtain⟨o,g,vs',m,oc,od,hv,hz',_⟩:=t3.obj i _ c ei hc
     refine η3 ?_
     exact go vs vs' o m g oc od hv hz' p3
    | _=>exact p3.elim
  | _=>exact p3.elim
end
end Sk
namespace Sk
open PySem PySem.Calls PySem.W PyProof.Rows PySem.Spec
section
variable {Γ:Cx}{Rz:Rise}{cl:CallO}{n:Nat}{f:Fm}{hid:List (Addr×Obj)}{ρ ρ' : List Addr}{l:LOC}{h:HP}{s:Shared}{E:Value→Shared→Prop}{M:Model}
theorem At.adopt (x:At Γ f hid ρ l h s){c:Addr}{o:Obj}{ao:AO}(ho:s.heap.get? c=some o) (hnew:∀ d∈f.adr hid ρ,d≠c) (hb:Γ.base.get? c=none) (hr:kx Γ (ρ++[c]) ao o):At Γ f hid (ρ++[c]) l (h++[ao]) s:=by
 have p:ρ<+:ρ++[c]:=Oz.g28 _ _
 obtain⟨m,F,hl,hm⟩:=x.frm
 refine⟨x.sh,⟨m,F,hl,fun i z v a b=>?_⟩,x.cel,by simp [x.len],fun i ao' d a b=>?_,?_,?_,x.hidden,x.below⟩
 ·obtain⟨v',h1,h2⟩:=hm i z v a b
  exact⟨v',h1.mono p,h2⟩
 ·by_cases hi:i<h.length
  ·rw [Oz.g23 hi] at a
   rw [Oz.g23 (by rw [x.len]; exact hi)] at b
   obtain⟨o',h1,h2⟩:=x.obj i ao' d a b
   exact⟨o',h1,h2.mono p⟩
  ·have hi' : i=h.length:=by
    have:=(Oz.g4.mp a).1
    simp at this; exact Oz.o539 hi this
   subst hi'
   have e1:ao'=ao:=by simpa using a.symm
   have e2:d=c:=by rw [← x.len] at b; simpa using b.symm
   subst e1; subst e2
   exact⟨o,ho,hr⟩
 ·unfold Fm.adr
  rw [Oz.g19]
  have hn:=x.nodup
  unfold Fm.adr at hn hnew
  rw [Oz.g17] at hn ⊢
  refine⟨hn.1,?_,fun a ha b hb'=>?_⟩
  ·rw [List.singleton_append,Oz.g20]
   exact⟨fun hm=>hnew _ (Oz.g24 _ hm) rfl,hn.2.1⟩
  ·rcases Oz.g1.mp hb' with e | e
   ·rw [Oz.g9.mp e]; exact hnew a (Oz.g18 _ ha)
   ·exact hn.2.2 a ha b e
 ·intro d hd
  unfold Fm.adr at hd
  rw [Oz.g19,Oz.g1] at hd
  rcases hd with hd | hd
  ·exact x.fresh d (Oz.g18 _ hd)
  ·rcases Oz.g1.mp hd with hd | hd
   ·rw [Oz.g9.mp hd]; exact hb
   ·exact x.fresh d (Oz.g24 _ hd)
set_option tactic.hygienic true in
theorem Ef {es:CEs}(he:ji Γ Rz cl n es):bg Γ Rz cl n (.list es):=by
 intro f e ok hm hid ρ l h s Q E t p
 replace hm:=w6 hm
 refine Oz.z fun ζ η=>?_
 obtain⟨_,_,rfl,hm⟩:=hm
 refine η ?_
 ·refine List_ (he f _ _ ok hm hid ρ l h s _ E t (p.thenE fun vs h1 p1 vs' ρ1 s1 pre1 t1 vr1=>?_))
  split at p1
  ·rename_i hz
   have hz:=of_decide_eq_true hz
   obtain⟨m,F,N,back⟩:=t1.led
   refine newList_N F N (fun h' F' N'=>?_) (by rw [vr1.length]; exact Oz.g2 hz (by decide))
   have pre:ρ1<+:ρ1++[s1.heap.objs.size]:=Oz.g28 _ _
   exact p1 _ _ _ (pre1.trans pre) (t1.allocN back F' N' (Oz.g3 _) ⟨vs',0,rfl,vr1.mono pre,Oz.o559 hz⟩) (md t1 _)
  ·exact p1.elim
set_option tactic.hygienic true in
theorem G1 {es:CEs}(he:ji Γ Rz cl n es):bg Γ Rz cl n (.tup es):=by
 intro f e ok hm hid ρ l h s Q E t p
 replace hm:=Am hm
 refine Oz.z fun ζ η=>?_
 obtain⟨_,_,_,rfl,hm⟩:=hm
 refine η ?_
 ·refine Tuple_ (he f _ _ ok hm hid ρ l h s _ E t (p.thenE fun vs h1 p1 vs' ρ1 s1 pre1 t1 vr1=>?_))
  split at p1
  ·rename_i hz
   have hz:=of_decide_eq_true hz
   obtain⟨m,F,N,back⟩:=t1.led
   refine newTuple_N F N (fun h' F' N'=>?_) (by rw [vr1.length]; exact Oz.g2 hz (by decide))
   have pre:ρ1<+:ρ1++[s1.heap.objs.size]:=Oz.g28 _ _
   exact p1 _ _ _ (pre1.trans pre) (t1.allocN back F' N' (Oz.g3 _) ⟨vs',0,rfl,vr1.mono pre,Oz.o559 hz⟩) (md t1 _)
  ·exact p1.elim
theorem yc (cx:CxOk Γ):bg Γ Rz cl n .dict0:=by
 intro f e ok hm hid ρ l h s Q E t p
 replace hm:=uy hm
 obtain⟨_,rfl⟩:=hm
 ·obtain⟨m,F,N,back⟩:=t.led
  refine newDict_K F N cx.nolimit fun d h' o F' N' l1 ζ ζ ζ hd ζ=>?_
  exact p _ _ _ (Oz.g28 _ _) (t.allocL back F' N' (fun q hq=>.tail _ hq) (.head _) l1 ⟨hd,by simp⟩) (md t _)
noncomputable def tu (Γ:Cx) (Rz:Rise) (cl:CallO) (n:Nat):Prop := ∀ (fi:Nat) (a:Addr),Γ.tx.fnAddr fi=some a→∀ (f:Fm) (A' : Around),FmOk f→A'.handled=none→A'.frames=f.A.frames→A'.depth+2*n+1<recursionLimit→A'.units+16*n+10<cLine →
 ∀ args vals hid ρ l h s Q E,At Γ f hid ρ l h s→VRs ρ args vals→aw (cl fi args h) (OKQ Γ f hid ρ l Q) (EXQ Rz f hid ρ l E) →
  codeAny (model Γ.prog Γ.w) A' (.call (.ref a) ⟨vals,[]⟩) (fun r s'=>match r with | .ok (.ret v)=>Q v s' | .ok _=>False | .error e=>E e s') s
theorem ib (t:At Γ f hid ρ l h s) (cx:CxOk Γ):Γ.K.In s.heap:=cx.X.keeps t.keepBase
theorem El {fi:Nat}{es:CEs}(cx:CxOk Γ) (cf:CxFn Γ) (hc:tu Γ Rz cl n) (he:ji Γ Rz cl n es):bg Γ Rz cl n (.call fi es):=by
 intro f e ok hm hid ρ l h s Q E t p
 replace hm:=w8 hm
 refine Oz.z fun ζ η=>?_
 obtain⟨_,_,_,_,rfl,hcm,hm⟩:=hm
 refine η ?_
 ·simp only [Oz.g5,beq_iff_eq] at hm
  refine Oz.z fun ζ1 η1=>?_
  obtain⟨⟨hx,hg⟩,m1⟩:=hm
  obtain⟨a,ha,hv,hk⟩:=cf.fnG fi _ hx
  refine η1 ?_
  refine Call_Name rfl (t.glob ok.toFmOk cx hg hv ?_)
  refine callWith_of (P:=fun hp=>Γ.K.In hp) (by rw [bv _ _ m1]; rfl) (keeps_K hk) (cu (bv _ _ m1) (he f _ _ ok m1 hid ρ l h s _ E t (p.thenE fun vs h1 p1 vs' ρ1 s1 pre1 t1 vr1=>⟨ib t1 cx,?_⟩)))
  exact wpAny_call (hc fi a ha f f.A ok.toFmOk (fg hcm) rfl (by have:=ok.room; exact Oz.o560 this) (by have:=ok.units; exact Oz.o561 this) vs vs' hid ρ1 l h1 s1 Q E t1 vr1 (p1.mono (fun ζ ζ q=>q.ext pre1) fun ζ ζ q=>q.ext pre1))
theorem Ee {a:CE}{m:Nat}{es:CEs}(cx:CxOk Γ) (cf:CxFn Γ) (hc:tu Γ Rz cl n) (ha:bg Γ Rz cl n a) (he:ji Γ Rz cl n es):bg Γ Rz cl n (.meth a m es):=by
 intro f e ok hm hid ρ l h s Q E t p
 replace hm:=w5 hm
 refine Oz.z fun ζ η=>?_
 obtain⟨_,_,_,_,_,rfl,hcm,hm⟩:=hm
 refine η ?_
 ·simp only [Oz.g5,beq_iff_eq,decide_eq_true_eq] at hm
  refine Oz.z fun ζ1 η1=>?_
  obtain⟨⟨⟨⟨⟨hx,hb⟩,hl⟩,hn⟩,m1⟩,m2⟩:=hm
  refine η1 ?_
  refine yx hb (bv _ _ m2) hn (by simpa using hl) (ha f _ ok m1 hid ρ l h s _ E t (p.thenE fun x h1 p1 v' ρ1 s1 pre1 t1 vr1=>?_))
  cases x with
  | ref i =>
   cases ei:h1[i]? with
   | none=>dsimp only at p1; rw [ei] at p1; exact p1.elim
   | some ao =>
    dsimp only at p1
    rw [ei] at p1
    cases ao with
    | inst c d =>
     dsimp only at p1
     cases em:Γ.G.meth c m with
     | none=>rw [em] at p1; exact p1.elim
     | some fi =>
      rw [em] at p1
      cases ed:h1[d]? with
      | none=>rw [ed] at p1; exact p1.elim
      | some ao2 =>
       rw [ed] at p1
       cases ao2 with
       | fields fs =>
        dsimp only at p1
        refine Oz.z fun ζ2 η2=>?_
        obtain⟨ad,hc1,rfl⟩:=vr1
        obtain⟨o,g1,C,dx,⟨rfl,hC⟩,hdx,rfl⟩:=t1.obj i _ ad ei hc1
        obtain⟨od,g2,es',k,rfl,hf⟩:=t1.obj d _ dx ed hdx
        obtain⟨_,C',x',fa,hC',hx',hfa,hfi,hfn,hkp,hna⟩:=cf.mthG _ _ _ em
        rw [hC] at hC'; cases hC'
        rw [hx] at hx'; cases hx'
        obtain⟨k1,k2,k3,_⟩:=cx.inst C hC
        obtain⟨mm,F,_⟩:=t1.frm
        refine η2 ?_
        refine method_inst F cx.X ⟨g1,rfl,rfl,g2⟩ (by unfold plainGet; rw [k2,k3]; rfl) hfi hfn (hf.none hna) ?_
        refine callWith_of (P:=fun hp=>Γ.K.In hp) (by rw [bv _ _ m2]; rfl) (keeps_K hkp) (cu (bv _ _ m2) (he f _ _ ok m2 hid ρ1 l h1 s1 _ E t1 ((bq.mp p1).mono (fun vs h2 p2 vs' ρ2 s2 pre2 t2 vr2=>⟨ib t2 cx,?_⟩) fun ζ ζ q=>q.ext pre1)))
        have pre:=pre1.trans pre2
        exact wpAny_call (hc fi fa hfa f f.A ok.toFmOk (fg hcm) rfl (by have:=ok.room; exact Oz.o560 this) (by have:=ok.units; exact Oz.o561 this) (.ref i::vs) (.ref ad::vs') hid ρ2 l h2 s2 Q E t2 (.cons ⟨ad,getElem?_pre pre2 hc1,rfl⟩ vr2) (p2.mono (fun ζ ζ q=>q.ext pre) fun ζ ζ q=>q.ext pre))
       | _=>exact p1.elim
    | _=>exact p1.elim
  | _=>exact p1.elim
theorem G2 {c:Nat}{es:CEs}(cx:CxOk Γ) (cf:CxFn Γ) (hc:tu Γ Rz cl n) (he:ji Γ Rz cl n es):bg Γ Rz cl n (.new c es):=by
 intro f e ok hm hid ρ l h s Q E t p
 replace hm:=Ap hm
 refine Oz.z fun ζ η=>?_
 obtain⟨_,_,_,_,rfl,hcm,hm⟩:=hm
 refine η ?_
 ·simp only [Oz.g5,beq_iff_eq] at hm
  refine Oz.z fun ζ1 η1=>?_
  obtain⟨⟨hx,hg⟩,m1⟩:=hm
  obtain⟨C,hC,hv⟩:=cf.clsG c _ hx
  refine η1 ?_
  cases hi:Γ.G.init c with
  | none =>
   have p:aw (match Γ.G.init c with
    | some f=>(evs Γ.G cl es l h).bind fun vs h₁=>(cl f (.ref (h₁.length+1)::vs) (h₁++[.fields [],.inst c h₁.length])).bind fun r h₂=>match r with
     | .none=>R.ok (.ref (h₁.length+1)) h₂
     | _=>.err
    | Option.none=>.err) (OKQ Γ f hid ρ l Q) (EXQ Rz f hid ρ l E):=p
   rw [hi] at p; exact p.elim
  | some fi =>
   have p:aw (match Γ.G.init c with
    | some f=>(evs Γ.G cl es l h).bind fun vs h₁=>(cl f (.ref (h₁.length+1)::vs) (h₁++[.fields [],.inst c h₁.length])).bind fun r h₂=>match r with
     | .none=>R.ok (.ref (h₁.length+1)) h₂
     | _=>.err
    | Option.none=>.err) (OKQ Γ f hid ρ l Q) (EXQ Rz f hid ρ l E):=p
   rw [hi] at p
   refine Oz.z fun ζ2 η2=>?_
   obtain⟨rfl,C',fa,hC',hfa,hmk,hin,hfn,hkp⟩:=cf.initG c fi hi
   refine η2 ?_
   rw [hC] at hC'; cases hC'
   refine Call_Name rfl (t.glob ok.toFmOk cx hg hv ?_)
   refine callWith_of (P:=fun hp=>Γ.K.In hp) (by rw [bv _ _ m1]; rfl) (keeps_K hkp) (cu (bv _ _ m1) (he f _ _ ok m1 hid ρ l h s _ E t (p.thenE fun vs h1 p1 vs' ρ1 s1 pre1 t1 vr1=>⟨ib t1 cx,?_⟩)))
   obtain⟨mm,F,N,back⟩:=t1.led
   refine call_cls F cx.X N hmk hin hfn fun x dx h' F' N' l1 l2=>?_
   have ta:At Γ f hid (ρ1++[dx]) l (h1++[.fields []]) { s1 with heap:=h',toks:=s1.toks } := t1.allocL back F' N' (fun q hq=>.tail _ (.tail _ hq)) (.tail _ (.head _)) l1 ⟨[],0,rfl,trivial⟩
   have hxn:∀ d∈f.adr hid (ρ1++[dx]),d≠x:=fun d hd=>by
    unfold Fm.adr at hd
    rw [Oz.g19,Oz.g1] at hd
    have old:∀ d∈f.adr hid ρ1,d≠x:=fun d hd e=>by
     rw [Fm.adr_eq] at hd
     rcases Oz.g1.mp hd with hd' | hd'
     ·obtain⟨od,eo⟩:=t1.there d (by rw [Fm.adr_eq]; exact hd)
      exact absurd (Nat.lt_trans (l1 _ (ch hd' eo)) l2) (e ▸ Nat.lt_irrefl _)
     ·rw [Oz.g9.mp hd'] at e
      exact(N' _ (.head _)).2.1 e.symm
    rcases hd with hd | hd
    ·exact old d (Oz.g18 _ hd)
    ·rcases Oz.g1.mp hd with hd | hd
     ·rw [Oz.g9.mp hd]; exact Nat.ne_of_lt l2
     ·exact old d (Oz.g24 _ hd)
   have tb:=ta.adopt (c:=x) (o:=instObj C dx) (ao:=.inst 0 h1.length) (N' _ (.head _)).1 hxn (N' _ (.head _)).2.2 ⟨C,dx,⟨rfl,hC⟩,by rw [← t1.len]; simp,rfl⟩
   have pre:ρ1<+:(ρ1++[dx])++[x]:=(Oz.g28 _ _).trans (Oz.g28 _ _)
   have hlen:(h1++[AO.fields []])++[AO.inst 0 h1.length]=h1++[.fields [],.inst 0 h1.length]:=by simp
   rw [hlen] at tb
   have p1:=bq.mp p1
   have vrx:VR ((ρ1++[dx])++[x]) (.ref (h1.length+1)) (.ref x):=⟨x,by rw [← t1.len]; simp,rfl⟩
   have:=hc fi fa hfa f (f.A.under (.builtin "type.__call__" ⟨.ref C::vs',[]⟩)) ok.toFmOk (fg hcm) rfl (by rw [depth_under_make]; have:=ok.room; exact Oz.o562 this) (by rw [units_under_make]; have:=ok.units; exact Oz.o563 this)
    (.ref (h1.length+1)::vs) (.ref x::vs') hid ((ρ1++[dx])++[x]) l _ _ (fun v s'=>v=.none∧Q (.ref x) s') E tb (.cons vrx (vr1.mono pre)) (p1.mono (fun r h2 q r' ρ3 s3 pre3 t3 vr3=>?_) fun ζ ζ q=>q.ext (pre1.trans pre))
   ·refine codeAny_mono this fun r s' q=>?_
    cases r with
    | error e=>exact q
    | ok fl =>
     cases fl with
     | ret v=>exact q
     | _=>exact q.elim
   ·cases r with
    | none=>cases vr3; exact⟨rfl,q _ _ _ ((pre1.trans pre).trans pre3) t3 (vrx.mono pre3)⟩
    | _=>exact q.elim
set_option tactic.hygienic true in
theorem Jq {m:BM}{a:CE}{es:CEs}(ha:bg Γ Rz cl n a) (he:ji Γ Rz cl n es):bg Γ Rz cl n (.bm m a es):=by
 intro f e ok hm hid ρ l h s Q E t p
 replace hm:=Dg hm
 refine Oz.z fun ζ η=>?_
 obtain⟨_,_,_,_,_,rfl,hm⟩:=hm
 refine η ?_
 ·simp only [Oz.g5,beq_iff_eq,decide_eq_true_eq] at hm
  refine Oz.z fun ζ1 η1=>?_
  obtain⟨⟨⟨⟨⟨rfl,hb⟩,hl⟩,hn⟩,m1⟩,m2⟩:=hm
  refine η1 ?_
  refine yx hb (bv _ _ m2) hn (by simpa using hl) (ha f _ ok m1 hid ρ l h s _ E t (p.thenE fun x h1 p1 v' ρ1 s1 pre1 t1 vr1=>?_))
  split at p1
  ·rename_i hk
   refine Em t1 vr1 hk ?_
   refine callWith_builtin (bv _ _ m2) (cu (bv _ _ m2) (he f _ _ ok m2 hid ρ1 l h1 s1 _ E t1 ((bq.mp p1).mono (fun vs h2 p2 vs' ρ2 s2 pre2 t2 vr2=>?_) fun ζ ζ q=>q.ext pre1)))
   exact Lp t2 (vr1.mono pre2) vr2 (p2.mono (fun ζ ζ q=>q.ext (pre1.trans pre2)) fun ζ ζ q=>q)
  ·exact p1.elim
end
end Sk
namespace Sk
open PySem PySem.Calls PySem.W PyProof.Rows PySem.Spec
noncomputable def zf (Γ:Cx):TY→Option Value
 | .int=>some (.type "int") | .bool=>some (.type "bool") | .list=>some (.type "list") | .tup=>some (.type "tuple") | .valueError=>some (.type "ValueError") | .own c=>(Γ.tx.clsAddr c).map .ref
noncomputable def xu (Γ:Cx):Prop := ∀ (f:Fm) hid ρ l h s Q E (i c:Nat) (ty:TY) (tv:Value) (ad:Addr),At Γ f hid ρ l h s→h[i]?=some (.exc c)→ρ[i]?=some ad→zf Γ ty=some tv →
 aw (ja Γ.G.sub ty (.ref i) h) (OKQ Γ f hid ρ l Q) (fun ζ ζ=>True)→wpAny (model Γ.prog Γ.w) f.A (call (.builtin "isinstance") [.ref ad,tv]) Q E s
section
variable {Γ:Cx}{Rz:Rise}{cl:CallO}{n:Nat}{f:Fm}{hid:List (Addr×Obj)}{ρ ρ' : List Addr}{l:LOC}{h:HP}{s:Shared}{E:Value→Shared→Prop}{M:Model}
theorem K6 {b:BF}(hb:b≠.listRange):bootBuiltins (tn b)=some (zn b):=by
 cases b with
 | len=>exact Boot.«len»
 | list=>exact Boot.«list»
 | listRange=>exact absurd rfl hb
 | sorted=>exact Boot.«sorted»
 | int=>exact Boot.«int»
 | min=>exact Boot.«min»
 | max=>exact Boot.«max»
 | max1=>exact Boot.«max»
 | all=>exact Boot.«all»
theorem D1 (b:BF):tn b∈bltNames:=by cases b <;> decide
theorem Gs (b:BF):tn b ≠ "__name__" := by cases b <;> decide
theorem Js {b:BF}{es:CEs}(cx:CxOk Γ) (cf:CxFn Γ) (he:ji Γ Rz cl n es):bg Γ Rz cl n (.bf b es):=by
 intro f e ok hm hid ρ l h s Q E t p
 replace hm:=Dh hm
 refine Oz.z fun ζ η=>?_
 obtain⟨bx,px,bargs,bpos,rfl,hcm,hm⟩:=hm
 refine η ?_
 have hcm:b≠.int→f.A.handled=none:=fun q=>fg (by
  rcases Bool.or_eq_true_iff.mp hcm with z | z
  ·exact z
  ·cases b <;> first | exact absurd rfl q | cases z)
 ·simp only [Oz.g5,beq_iff_eq] at hm
  obtain⟨⟨rfl,hg⟩,m1⟩:=hm
  by_cases hb:b=.listRange
  ·subst hb
   exact ba m1
  ·have m1:mtEs Γ.tx f.sc es bargs=true:=by cases b <;> first | exact m1 | exact absurd rfl hb
   refine Call_Name rfl (t.blt ok.toFmOk cx cf hg (D1 b) (Gs b) (K6 hb) ?_)
   have body:wpAny (model Γ.prog Γ.w) f.A (evalArgs (zn b) true (backTo bpos (starEach bargs f.env)) []) (fun a s₁=>wpAny (model Γ.prog Γ.w) f.A (call (zn b) ([]++a.pos) a.kw) Q E s₁) E s :=
    cu (bv _ _ m1) (he f _ _ ok m1 hid ρ l h s _ E t (p.thenE fun vs h1 p1 vs' ρ1 s1 pre1 t1 vr1=>Lq t1 cx cf.sysm hcm vr1 hb (p1.mono (fun ζ ζ q=>q.ext pre1) fun ζ ζ q=>q)))
   cases b with
   | list=>exact PySem.callWith_type (bv _ _ m1) body
   | int=>exact PySem.callWith_type (bv _ _ m1) body
   | listRange=>exact absurd rfl hb
   | _=>exact callWith_builtin (bv _ _ m1) body
theorem B0 {a:CE}{ty:TY}(cx:CxOk Γ) (cf:CxFn Γ) (ix:xu Γ) (ha:bg Γ Rz cl n a):bg Γ Rz cl n (.isinst a ty):=by
 intro f e ok hm hid ρ l h s Q E t p
 replace hm:=ru hm
 refine Oz.z fun ζ η=>?_
 obtain⟨bx,px,v,y,py,pos,rfl,hm⟩:=hm
 refine η ?_
 ·simp only [Oz.g5,beq_iff_eq] at hm
  refine Oz.z fun ζ1 η1=>?_
  obtain⟨⟨⟨⟨rfl,hg⟩,m1⟩,hy⟩,hg2⟩:=hm
  refine η1 ?_
  refine Call_Name rfl (t.blt ok.toFmOk cx cf hg (by decide) (by decide) Boot.«isinstance» ?_)
  have hpl:(backTo pos (starEach [v,.Name y py] f.env)).any (·.1)=false:=by
   rw [nc m1]; rfl
  refine callWith_builtin (first:=[]) hpl (cu hpl ?_)
  rw [nc m1]
  refine spliced_cons (ha f v ok m1 hid ρ l h s _ E t (p.thenE fun x h1 p1 v' ρ1 s1 pre1 t1 vr1=>?_))
  have p1:=p1.mono (fun ζ ζ q=>OKQ.ext pre1 q) (ex' := fun ζ ζ=>True) fun ζ ζ ζ=>trivial
  have go:∀ tv,(wpAny (model Γ.prog Γ.w) f.A (call (.builtin "isinstance") [v',tv]) Q E s1)→∀ (hb:∀ Q',Q' tv s1→wpAny (model Γ.prog Γ.w) f.A (eval (.Name y py) f.env) Q' E s1),
    wpAny (model Γ.prog Γ.w) f.A (spliced (backTo pos (starEach [.Name y py] f.env))) (fun vs s'=>wpAny (model Γ.prog Γ.w) f.A (call (.builtin "isinstance") ([]++(v'::vs))) Q E s') E s1:=fun tv q hb =>
   spliced_cons (hb _ (spliced_nil q))
  have exc:∀ tv,zf Γ ty=some tv→(Oz.E2 fun i c=>x=.ref i∧h1[i]?=some (.exc c))→wpAny (model Γ.prog Γ.w) f.A (call (.builtin "isinstance") [v',tv]) Q E s1:=by
   rintro tv htv ⟨i,c,rfl,hi⟩
   obtain⟨ad,had,rfl⟩:=vr1
   exact ix f hid ρ1 l h1 s1 Q E i c ty tv ad t1 hi had htv p1
  have notExc:(∃ T,zf Γ ty=some (.type T)∧(T = "int" ∧ ty=.int∨T = "bool" ∧ ty=.bool∨T = "list" ∧ ty=.list∨T = "tuple" ∧ ty=.tup))→∃ tv,zf Γ ty=some tv∧wpAny (model Γ.prog Γ.w) f.A (call (.builtin "isinstance") [v',tv]) Q E s1:=by
   rintro⟨T,e1,e2⟩
   exact⟨_,e1,Da t1 vr1 T e2 p1⟩
  have isExc:ty=.valueError∨(∃ d,ty=.own d)→Oz.E2 fun i c=>x=.ref i∧h1[i]?=some (.exc c):=by
   intro q
   cases x with
   | ref i =>
    cases qi:h1[i]? with
    | none =>
     replace p1:aw ((h1[i]?).elim .err (sg Γ.G.sub h1 ty)) _ _:=j0 p1
     rw [qi] at p1; exact p1.elim
    | some o =>
     cases o with
     | exc c=>exact⟨i,c,rfl,qi⟩
     | _ =>
      replace p1:aw ((h1[i]?).elim .err (sg Γ.G.sub h1 ty)) _ _:=j0 p1
      rw [qi] at p1; rcases q with rfl | ⟨d,rfl⟩ <;> exact p1.elim
   | _=>rcases q with rfl | ⟨d,rfl⟩ <;> exact p1.elim
  cases ty with
  | int=>obtain⟨tv,e1,q⟩:=notExc ⟨"int",rfl,.inl ⟨rfl,rfl⟩⟩; cases e1; cases hy; exact go _ q fun Q' q'=>t1.blt ok.toFmOk cx cf hg2 (by decide) (by decide) Boot.«int» q'
  | bool=>obtain⟨tv,e1,q⟩:=notExc ⟨"bool",rfl,.inr (.inl ⟨rfl,rfl⟩)⟩; cases e1; cases hy; exact go _ q fun Q' q'=>t1.blt ok.toFmOk cx cf hg2 (by decide) (by decide) Boot.«bool» q'
  | list=>obtain⟨tv,e1,q⟩:=notExc ⟨"list",rfl,.inr (.inr (.inl ⟨rfl,rfl⟩))⟩; cases e1; cases hy; exact go _ q fun Q' q'=>t1.blt ok.toFmOk cx cf hg2 (by decide) (by decide) Boot.«list» q'
  | tup=>obtain⟨tv,e1,q⟩:=notExc ⟨"tuple",rfl,.inr (.inr (.inr ⟨rfl,rfl⟩))⟩; cases e1; cases hy; exact go _ q fun Q' q'=>t1.blt ok.toFmOk cx cf hg2 (by decide) (by decide) Boot.«tuple» q'
  | valueError=>cases hy; exact go _ (exc _ rfl (isExc (.inl rfl))) fun Q' q'=>t1.blt ok.toFmOk cx cf hg2 (by decide) (by decide) Boot.«ValueError» q'
  | own d =>
   obtain⟨C,hC,hv⟩:=cf.clsG d y hy
   exact go _ (exc _ (by show Option.map _ _=_; rw [hC]; rfl) (isExc (.inr ⟨d,rfl⟩))) fun Q' q'=>t1.glob ok.toFmOk cx hg2 hv q'
end
end Sk
namespace Sk
open PySem PySem.Calls PySem.W PyProof.Rows PySem.Spec
theorem Bs (f:Fm) (hid:List (Addr×Obj)) (ρ:List Addr):(f.adr hid ρ).Perm (hid.map (·.1)++f.adr [] ρ):=by
 unfold Fm.adr
 simp only [List.map_nil,List.nil_append]
 rw [← Oz.g19 ρ,← Oz.g19 ρ]
 exact List.perm_append_comm_assoc _ _ _
theorem cp {f:Fm}{hid:List (Addr×Obj)}{ρ:List Addr}:(f.adr hid ρ).Nodup↔(hid.map (·.1)).Nodup∧(f.adr [] ρ).Nodup∧∀ p∈hid,p.1∉f.adr [] ρ:=by
 rw [(Bs f hid ρ).nodup_iff,Oz.g17]
 constructor
 ·rintro⟨a,b,c⟩
  exact⟨a,b,fun p hp hm=>c _ (Oz.g15 hp) _ hm rfl⟩
 ·rintro⟨a,b,c⟩
  refine⟨a,b,fun x hx y hy e=>?_⟩
  obtain⟨p,hp,rfl⟩:=Oz.g8.mp hx
  exact c p hp (e ▸ hy)
theorem jt {f:Fm}{hid:List (Addr×Obj)}{ρ:List Addr}{c:Addr}:c∈f.adr hid ρ↔c∈hid.map (·.1)∨c∈f.adr [] ρ:=by
 rw [(Bs f hid ρ).mem_iff,Oz.g1]
section
variable {Γ:Cx}{f:Fm}{hid hid' : List (Addr×Obj)}{ρ:List Addr}{l:LOC}{h:HP}{s s' : Shared}{E:Value→Shared→Prop}{M:Model}
theorem At.rehid (x:At Γ f hid ρ l h s) (Z:List Addr) (hs:s'={ Γ.s₀ with heap:=s'.heap,toks:=s'.toks }) (k:∀ b o,b∉Z→s.heap.get? b=some o→s'.heap.get? b=some o)
  (hZ:∀ z∈Z,z∉f.adr [] ρ∧Γ.base.get? z=none) (hh:∀ p∈hid',s'.heap.get? p.1=some p.2) (hn:(hid'.map (·.1)).Nodup) (hf:∀ p∈hid',p.1∉f.adr [] ρ∧Γ.base.get? p.1=none):At Γ f hid' ρ l h s' := by
 have k' : ∀ b∈f.adr [] ρ,∀ o,s.heap.get? b=some o→s'.heap.get? b=some o:=fun b hb o e=>k b o (fun hz=>(hZ b hz).1 hb) e
 have inRho:∀ b∈ρ,b∈f.adr [] ρ:=fun b hb=>Oz.g18 _ hb
 have inCel:∀ p∈f.cells,p.2∈f.adr [] ρ:=fun p hp=>by
  unfold Fm.adr; simp only [Oz.g1]; exact .inr (.inl (Oz.g15 hp))
 have inBel:∀ p∈f.fr0,p.1∈f.adr [] ρ:=fun p hp=>by
  unfold Fm.adr; simp only [Oz.g1]; exact .inr (.inr (.inr (.inl (Oz.g15 hp))))
 have inLoc:f.env.locals∈f.adr [] ρ:=by unfold Fm.adr; simp
 obtain⟨m,F,hl,hm⟩:=x.frm
 have nd:=cp.mp x.nodup
 refine⟨hs,⟨m,⟨?_,fun b o e=>k b o (fun hz=>by rw [(hZ b hz).2] at e; cases e) (F.keep b o e),F.above⟩,hl,fun i y v a b=>?_⟩,fun p hp=>?_,x.len,fun i ao c a b=>?_,cp.mpr ⟨hn,nd.2.1,fun p hp=>(hf p hp).1⟩,fun c hc=>?_,hh,fun p hp=>?_⟩
 ·refine Oz.z fun ζ η=>?_
  obtain⟨oL,es,ep,e1,e2⟩:=F.ns
  refine η ?_
  exact⟨oL,es,ep,k' _ inLoc _ e1,e2⟩
 ·obtain⟨v',h1,h2⟩:=hm i y v a b
  exact⟨v',h1,h2.imp id fun⟨h3,c,h4,o,h5,h6⟩=>⟨h3,c,h4,o,k' _ (inCel _ (bk h4)) _ h5,h6⟩⟩
 ·obtain⟨v,o,h5,h6⟩:=x.cel p hp; exact⟨v,o,k' _ (inCel p hp) _ h5,h6⟩
 ·obtain⟨o,h1,h2⟩:=x.obj i ao c a b; exact⟨o,k' _ (inRho _ (Oz.g16 b)) _ h1,h2⟩
 ·rcases jt.mp hc with hc | hc
  ·obtain⟨p,hp,rfl⟩:=Oz.g8.mp hc; exact(hf p hp).2
  ·exact x.fresh c (jt.mpr (.inr hc))
 ·obtain⟨sl,e⟩:=x.below p hp; exact⟨sl,k' _ (inBel p hp) _ e⟩
theorem At.hidOff (x:At Γ f hid ρ l h s){p:Addr×Obj}(hp:p∈hid):p.1∉f.adr [] ρ∧Γ.base.get? p.1=none :=
 ⟨(cp.mp x.nodup).2.2 p hp,x.fresh _ (jt.mpr (.inl (Oz.g15 hp)))⟩
theorem At.unhide {hx:List (Addr×Obj)}(x:At Γ f (hx++hid) ρ l h s):At Γ f hid ρ l h s :=
 x.rehid [] x.sh (fun ζ ζ ζ e=>e) (fun ζ h=>by cases h) (fun p hp=>x.hidden p (Oz.g24 _ hp)) (by
  have:=(cp.mp x.nodup).1
  rw [List.map_append,Oz.g17] at this
  exact this.2.1) fun p hp=>x.hidOff (Oz.g24 _ hp)
theorem At.hidPut {it:Addr}{o o' : Obj}(x:At Γ f ((it,o)::hid) ρ l h s) (hs:s'={ Γ.s₀ with heap:=s'.heap,toks:=s'.toks }) (k:∀ b o,b≠it→s.heap.get? b=some o→s'.heap.get? b=some o)
  (ho:s'.heap.get? it=some o'):At Γ f ((it,o')::hid) ρ l h s' := by
 have nd:=(cp.mp x.nodup).1
 refine x.rehid [it] hs (fun b o hb e=>k b o (by simpa using hb) e) (fun z hz=>by rw [Oz.g9.mp hz]; exact x.hidOff (.head _)) (fun p hp=>?_) nd fun p hp=>?_
 ·rcases Oz.g6.mp hp with rfl | hp'
  ·exact ho
  ·refine k _ _ (fun e=>?_) (x.hidden p (.tail _ hp'))
   have:=(Oz.g20.mp nd).1
   exact this (Oz.g8.mpr ⟨p,hp',e⟩)
 ·rcases Oz.g6.mp hp with rfl | hp'
  ·exact x.hidOff (p:=(it,o)) (.head _)
  ·exact x.hidOff (.tail _ hp')
theorem At.hidDrop {it:Addr}{o:Obj}(x:At Γ f ((it,o)::hid) ρ l h s) (hs:s'={ Γ.s₀ with heap:=s'.heap,toks:=s'.toks }) (k:∀ b o,b≠it→s.heap.get? b=some o→s'.heap.get? b=some o):At Γ f hid ρ l h s' := by
 have nd:=(cp.mp x.nodup).1
 refine x.rehid [it] hs (fun b o hb e=>k b o (by simpa using hb) e) (fun z hz=>by rw [Oz.g9.mp hz]; exact x.hidOff (.head _)) (fun p hp=>?_) (Oz.g20.mp nd).2 fun p hp=>x.hidOff (.tail _ hp)
 refine k _ _ (fun e=>(Oz.g20.mp nd).1 (Oz.g8.mpr ⟨p,hp,e⟩)) (x.hidden p (.tail _ hp))
theorem At.hidNew {it:Addr}{o:Obj}(x:At Γ f hid ρ l h s) (hs:s'={ Γ.s₀ with heap:=s'.heap,toks:=s'.toks }) (k:∀ b o,s.heap.get? b=some o→s'.heap.get? b=some o) (hc:s.heap.objs.size≤it)
  (ho:s'.heap.get? it=some o):At Γ f ((it,o)::hid) ρ l h s' := by
 have hnew:∀ d∈f.adr hid ρ,d≠it:=fun d hd e=>absurd (Oz.g27 (x.all_lt d hd) hc) (e ▸ Nat.lt_irrefl _)
 have hb:Γ.base.get? it=none:=by
  cases q:Γ.base.get? it with
  | none=>rfl
  | some o=>exact absurd (Oz.g27 (Heap.lt_size (x.keepBase _ _ q)) hc) (Nat.lt_irrefl _)
 refine x.rehid [] hs (fun b o ζ e=>k b o e) (fun ζ h=>by cases h) (fun p hp=>?_) ?_ fun p hp=>?_
 ·rcases Oz.g6.mp hp with rfl | hp'
  ·exact ho
  ·exact k _ _ (x.hidden p hp')
 ·rw [List.map_cons,Oz.g20]
  exact⟨fun hm=>hnew _ (jt.mpr (.inl hm)) rfl,(cp.mp x.nodup).1⟩
 ·rcases Oz.g6.mp hp with rfl | hp'
  ·exact⟨fun hm=>hnew _ (jt.mpr (.inr hm)) rfl,hb⟩
  ·exact x.hidOff hp'
end
structure ItrP (Γ:Cx) (it:Addr) (items:List AV) (g:Grd) (H:Nat→List (Addr×Obj)→List Addr→Prop):Prop where
 item:∀ (f:Fm) hid ρ l h s k hx v Q E,f.A.handled=none→At Γ f (hx++hid) ρ l h s→H k hx ρ→okG g h=true→items[k]?=some v →
  (∀ v' hx' s',At Γ f (hx'++hid) ρ l h s'→H (k+1) hx' ρ→VR ρ v v'→Q (some v') s')→wpAny (model Γ.prog Γ.w) f.A (pyNext (.ref it)) Q E s
 done:∀ (f:Fm) hid ρ l h s k hx Q E,f.A.handled=none→At Γ f (hx++hid) ρ l h s→H k hx ρ→okG g h=true→items.length≤k →
  (∀ s',At Γ f hid ρ l h s'→Q none s')→wpAny (model Γ.prog Γ.w) f.A (pyNext (.ref it)) Q E s
 mono:∀ k hx ρ ρ',ρ<+:ρ'→H k hx ρ→H k hx ρ'
 self:∀ (f:Fm) hid ρ l h s k hx Q E,At Γ f (hx++hid) ρ l h s→H k hx ρ→Q (.ref it) s→wpAny (model Γ.prog Γ.w) f.A (pyIter (.ref it)) Q E s
structure ItrQ (Γ:Cx) (it:Addr) (items:List AV) (g:Grd) (pin:Option (Addr×Obj)) (H:Nat→List (Addr×Obj)→List Addr→Prop):Prop where
 item:∀ (f:Fm) hid ρ l h s k hx v Q E,f.A.handled=none→At Γ f (hx++hid) ρ l h s→Pn pin ρ s→H k hx ρ→okG g h=true→items[k]?=some v →
  (∀ v' hx' s',At Γ f (hx'++hid) ρ l h s'→Pn pin ρ s'→H (k+1) hx' ρ→VR ρ v v'→Q (some v') s')→wpAny (model Γ.prog Γ.w) f.A (pyNext (.ref it)) Q E s
 done:∀ (f:Fm) hid ρ l h s k hx Q E,f.A.handled=none→At Γ f (hx++hid) ρ l h s→Pn pin ρ s→H k hx ρ→okG g h=true→items.length≤k →
  (∀ s',At Γ f hid ρ l h s'→Q none s')→wpAny (model Γ.prog Γ.w) f.A (pyNext (.ref it)) Q E s
 mono:∀ k hx ρ ρ',ρ<+:ρ'→H k hx ρ→H k hx ρ'
 self:∀ (f:Fm) hid ρ l h s k hx Q E,At Γ f (hx++hid) ρ l h s→H k hx ρ→Q (.ref it) s→wpAny (model Γ.prog Γ.w) f.A (pyIter (.ref it)) Q E s
theorem ItrP.to {Γ:Cx}{it:Addr}{items:List AV}{g:Grd}{H:Nat→List (Addr×Obj)→List Addr→Prop}(x:ItrP Γ it items g H):ItrQ Γ it items g none H :=
 ⟨fun f hid ρ l h s k hx v Q E a b ζ c d e q=>x.item f hid ρ l h s k hx v Q E a b c d e fun v' hx' s' u1 u2 u3=>q v' hx' s' u1 Pn.none u2 u3,fun f hid ρ l h s k hx Q E a b ζ c d e q=>x.done f hid ρ l h s k hx Q E a b c d e q,x.mono,x.self⟩
theorem ItrQ.plain {Γ:Cx}{it:Addr}{items:List AV}{g:Grd}{H:Nat→List (Addr×Obj)→List Addr→Prop}(x:ItrQ Γ it items g none H):ItrP Γ it items g H :=
 ⟨fun f hid ρ l h s k hx v Q E a b c d e q=>x.item f hid ρ l h s k hx v Q E a b Pn.none c d e fun v' hx' s' u1 ζ u2 u3=>q v' hx' s' u1 u2 u3,fun f hid ρ l h s k hx Q E a b c d e q=>x.done f hid ρ l h s k hx Q E a b Pn.none c d e q,x.mono,x.self⟩
theorem kj {i:Nat}{o:AO}{h:HP}(e:okG (some (i,o)) h=true):h[i]?=some o:=of_decide_eq_true e
section
variable {Γ:Cx}
theorem Fs {it:Addr}{a c:Int}{n:Nat}(z:Shared→Prop:=fun ζ=>True):ItrP Γ it ((List.range n).map fun(k:Nat)=>.int (a+(k:Int)*c)) none
  (fun k hx ρ=>k≤n∧hx=[(it,{ cls:=.type "range_iterator",dict:=none,data:=.fields #[rawInt (a+(k:Int)*c),rawInt ((n:Int) - k),rawInt c],slots := #[] })]):=by
 refine⟨fun f hid ρ l h s k hx v Q E hh t hH hg hv q=>?_,fun f hid ρ l h s k hx Q E hh t hH hg hv q=>?_,fun k hx ρ ρ' ζ x=>x,fun f hid ρ l h s k hx Q E t hH q=>?_⟩
 ·refine Oz.z fun ζ η=>?_
  obtain⟨hk,rfl⟩:=hH
  rw [Oz.g12] at hv
  obtain⟨j,ej,rfl⟩:=Oz.g11.mp hv
  obtain⟨hj,e⟩:=Oz.g4.mp ej
  have:j=k:=by simpa using e.symm
  subst this
  refine η ?_
  have hjn:j<n:=by simpa using hj
  refine wpAny_pyNext_range_item (t.hidden _ (.head _)) (Oz.o572 hjn) fun h' hi hs=>?_
  have t' := t.hidPut (s' := { s with heap:=h',toks:=s.toks+1 }) (by rw [t.sh]) (fun b o hb e=>(hs.2 b hb).trans e) hi
  refine q _ [(it,_)] _ t' ⟨hjn,?_⟩ ⟨_,rfl⟩
  have e1:a+(j:Int)*c+c=a+((j+1:Nat):Int)*c:=by push_cast; rw [Int.add_mul]; exact Oz.o573
  have e2:(n:Int) - j - 1=(n:Int) - ((j+1:Nat):Int):=by push_cast; exact Oz.o574
  rw [← e1,← e2]
 ·obtain⟨hk,rfl⟩:=hH
  have:n≤k:=by simpa using hv
  exact wpAny_pyNext_range_end hh (t.hidden _ (.head _)) (Oz.o575 this) fun h' hs=>q _ (t.hidDrop (by rw [t.sh]) fun b o hb e=>hs b o hb e)
 ·obtain⟨hk,rfl⟩:=hH
  exact wpAny_pyIter_rangeiter (t.hidden _ (.head _)) q
theorem Hu {it:Addr}{i:Nat}{vs:List AV}:ItrP Γ it vs (some (i,.list vs))
  (fun k hx ρ=>Oz.E2 fun ad o=>ρ[i]?=some ad∧hx=[(it,o)]∧o.cls=.type "list_iterator" ∧ o.data=.fields #[.ref ad,.int (k:Nat) 0]):=by
 refine⟨fun f hid ρ l h s k hx v Q E hh t hH hg hv q=>?_,fun f hid ρ l h s k hx Q E hh t hH hg hv q=>?_,fun k hx ρ ρ' p ⟨ad,o,e1,e2⟩=>⟨ad,o,getElem?_pre p e1,e2⟩,fun f hid ρ l h s k hx Q E t hH q=>?_⟩
 ·refine Oz.z fun ζ η=>?_
  obtain⟨ad,o,hi,rfl,oc,od⟩:=hH
  obtain⟨ol,g1,r1⟩:=t.obj i _ ad (kj hg) hi
  obtain⟨vs',l1,v1⟩:=ci g1 r1
  obtain⟨v',e1,e2⟩:=v1.get hv
  refine η ?_
  refine wpAny_pyNext_list_item (i:=k) ⟨o,t.hidden _ (.head _),oc,od⟩ l1 (by simpa using e1) fun h' hn hs=>?_
  obtain⟨o',g2,oc',od'⟩:=hn
  exact q _ _ _ (t.hidPut (by rw [t.sh]) (fun b o hb e=>(hs.2 b hb).trans e) g2) ⟨ad,o',hi,rfl,oc',od'⟩ e2
 ·refine Oz.z fun ζ1 η1=>?_
  obtain⟨ad,o,hi,rfl,oc,od⟩:=hH
  obtain⟨ol,g1,r1⟩:=t.obj i _ ad (kj hg) hi
  obtain⟨vs',l1,v1⟩:=ci g1 r1
  refine η1 ?_
  refine wpAny_pyNext_list_end (i:=k) hh ⟨o,t.hidden _ (.head _),oc,od⟩ l1 (by simp [v1.length]; exact hv) fun h' hs=>q _ (t.hidDrop (by rw [t.sh]) fun b o hb e=>hs b o hb e)
 ·refine Oz.z fun ζ2 η2=>?_
  obtain⟨ad,o,hi,rfl,oc,od⟩:=hH
  refine η2 ?_
  exact wpAny_pyIter_listiter (i:=k) ⟨o,t.hidden _ (.head _),oc,od⟩ q
theorem Ki {it:Addr}{i:Nat}{vs:List AV}:ItrP Γ it vs (some (i,.tup vs))
  (fun k hx ρ=>Oz.E2 fun ad o=>ρ[i]?=some ad∧hx=[(it,o)]∧o.cls=.type "tuple_iterator" ∧ o.data=.fields #[.ref ad,.int (k:Nat) 0]):=by
 refine⟨fun f hid ρ l h s k hx v Q E hh t hH hg hv q=>?_,fun f hid ρ l h s k hx Q E hh t hH hg hv q=>?_,fun k hx ρ ρ' p ⟨ad,o,e1,e2⟩=>⟨ad,o,getElem?_pre p e1,e2⟩,fun f hid ρ l h s k hx Q E t hH q=>?_⟩
 ·refine Oz.z fun ζ η=>?_
  obtain⟨ad,o,hi,rfl,oc,od⟩:=hH
  obtain⟨ol,g1,r1⟩:=t.obj i _ ad (kj hg) hi
  obtain⟨vs',l1,_,v1⟩:=n7 g1 r1
  obtain⟨v',e1,e2⟩:=v1.get hv
  refine η ?_
  refine wpAny_pyNext_tuple_item (i:=k) ⟨o,t.hidden _ (.head _),oc,od⟩ l1 (by simpa using e1) fun h' hn hs=>?_
  obtain⟨o',g2,oc',od'⟩:=hn
  exact q _ _ _ (t.hidPut (by rw [t.sh]) (fun b o hb e=>(hs.2 b hb).trans e) g2) ⟨ad,o',hi,rfl,oc',od'⟩ e2
 ·refine Oz.z fun ζ1 η1=>?_
  obtain⟨ad,o,hi,rfl,oc,od⟩:=hH
  obtain⟨ol,g1,r1⟩:=t.obj i _ ad (kj hg) hi
  obtain⟨vs',l1,_,v1⟩:=n7 g1 r1
  refine η1 ?_
  refine wpAny_pyNext_tuple_end (i:=k) hh ⟨o,t.hidden _ (.head _),oc,od⟩ l1 (by simp [v1.length]; exact hv) fun h' hs=>q _ (t.hidDrop (by rw [t.sh]) fun b o hb e=>hs b o hb e)
 ·refine Oz.z fun ζ2 η2=>?_
  obtain⟨ad,o,hi,rfl,oc,od⟩:=hH
  refine η2 ?_
  exact wpAny_pyIter_tupleiter (i:=k) ⟨o,t.hidden _ (.head _),oc,od⟩ q
theorem Kj {it:Addr}{i:Nat}{vs:List AV}:ItrP Γ it vs.reverse (some (i,.list vs))
  (fun k hx ρ=>k≤vs.length∧Oz.E2 fun ad o=>ρ[i]?=some ad∧hx=[(it,o)]∧o.cls=.type "list_reverseiterator" ∧ o.data=.fields #[.ref ad,rawInt ((vs.length:Int) - 1 - k)]):=by
 refine⟨fun f hid ρ l h s k hx v Q E hh t hH hg hv q=>?_,fun f hid ρ l h s k hx Q E hh t hH hg hv q=>?_,fun k hx ρ ρ' p ⟨e0,ad,o,e1,e2⟩=>⟨e0,ad,o,getElem?_pre p e1,e2⟩,fun f hid ρ l h s k hx Q E t hH q=>?_⟩
 ·refine Oz.z fun ζ η=>?_
  obtain⟨hk,ad,o,hi,rfl,oc,od⟩:=hH
  obtain⟨ol,g1,r1⟩:=t.obj i _ ad (kj hg) hi
  obtain⟨vs',l1,v1⟩:=ci g1 r1
  have hkl:k<vs.length:=by have:=(Oz.g4.mp hv).1; simpa using this
  rw [List.getElem?_reverse hkl] at hv
  obtain⟨v',e1,e2⟩:=v1.get hv
  refine η ?_
  have eq1:(vs.length:Int) - 1 - k=((vs.length - 1 - k:Nat):Int):=Oz.o576 hkl
  rw [eq1] at od
  refine wpAny_pyNext_rev_item (i:=vs.length - 1 - k) ⟨o,t.hidden _ (.head _),oc,od⟩ l1 (by simpa using e1) fun h' hn hs=>?_
  obtain⟨o',g2,oc',od'⟩:=hn
  refine q _ _ _ (t.hidPut (by rw [t.sh]) (fun b o hb e=>(hs.2 b hb).trans e) g2) ⟨hkl,ad,o',hi,rfl,oc',?_⟩ e2
  have e3:((vs.length - 1 - k:Nat):Int) - 1=(vs.length:Int) - 1 - ((k+1:Nat):Int):=Oz.o577 eq1
  rw [od',e3]
 ·refine Oz.z fun ζ1 η1=>?_
  obtain⟨hk,ad,o,hi,rfl,oc,od⟩:=hH
  refine η1 ?_
  have:(vs.length:Int) - 1 - k=-1:=by simp at hv; exact Oz.o578 hk hv
  rw [this] at od
  refine wpAny_pyNext_rev_end hh ⟨o,t.hidden _ (.head _),oc,od⟩ fun h' hs=>q _ (t.hidDrop (by rw [t.sh]) fun b o hb e=>hs b o hb e)
 ·refine Oz.z fun ζ2 η2=>?_
  obtain⟨hk,ad,o,hi,rfl,oc,od⟩:=hH
  refine η2 ?_
  exact wpAny_pyIter_revIter ⟨o,t.hidden _ (.head _),oc,od⟩ q
end
end Sk
namespace Sk
open PySem PySem.Calls PySem.W PyProof.Rows PySem.Spec
section
variable {Γ:Cx}{f f' : Fm}{hid HC:List (Addr×Obj)}{ρ ρ' : List Addr}{l l' : LOC}{h h' : HP}{s s' : Shared}{oL:Obj}
theorem At.locObj (x:At Γ f hid ρ l h s):∃ o,s.heap.get? f.env.locals=some o:=let ⟨_,F,_⟩:=x.frm; let ⟨o,_,_,e,_⟩:=F.ns; ⟨o,e⟩
theorem At.locNf (x:At Γ f hid ρ l h s) (e:s.heap.get? f.env.locals=some oL):∀ vs,oL.data≠.fields vs:=fun vs q=>by
 refine Oz.z fun ζ η=>?_
 obtain⟨_,F,_⟩:=x.frm
 obtain⟨o,es,ep,e1,e2,_⟩:=F.ns
 refine η ?_
 rw [e] at e1; cases e1
 rw [q] at e2; cases e2
theorem At.leave (x:At Γ f hid ρ l h s) (y:At Γ f' (HC++hid) ρ' l' h' s') (p:ρ<+:ρ') (hL:s.heap.get? f.env.locals=some oL) (hfr:f'.fr0=(f.env.locals,oL)::f.fr0)
  (hc:∀ q∈f.cells,(∃ o,(q.2,o)∈HC∧s.heap.get? q.2=some o)∨(q∈f'.cells∧∀ k:Nat,f.slots[k]?=some (some q.1)→f'.slots[k]?=some (some q.1)∧l'[k]?=l[k]?∧f'.env.kindOf q.1≠some .local∧f'.cells.lookup q.1=some q.2)):At Γ f hid ρ' l h' s' := by
 refine Oz.z fun ζ η=>?_
 obtain⟨m,F,hl,hm⟩:=x.frm
 obtain⟨m',F',hl',hm'⟩:=y.frm
 refine η ?_
 have hbelow:∃ sl,s'.heap.get? f.env.locals=some { oL with slots:=sl } := y.below (f.env.locals,oL) (by rw [hfr]; exact .head _)
 have ns:s'.heap.Ns f.env.locals m:=by
  refine Oz.z fun ζ1 η1=>?_
  obtain⟨o,es,ep,e1,e2,e3⟩:=F.ns
  obtain⟨sl,e⟩:=hbelow
  refine η1 ?_
  rw [hL] at e1; cases e1
  exact⟨_,es,ep,e,e2,e3⟩
 have xn:=x.nodup
 have yn:=y.nodup
 unfold Fm.adr at xn yn
 rw [Oz.g17] at xn yn
 have sub:∀ c∈f.cells.map (·.2)++(hid.map (·.1)++(f.fr0.map (·.1)++[f.env.locals])),c∈f'.cells.map (·.2)++((HC++hid).map (·.1)++(f'.fr0.map (·.1)++[f'.env.locals])):=by
  intro c hcm
  simp only [Oz.g1,List.map_append,hfr,List.map_cons,Oz.g6] at hcm ⊢
  rcases hcm with hcm | hcm | hcm | hcm
  ·obtain⟨q,hq,rfl⟩:=Oz.g8.mp hcm
   rcases hc q hq with ⟨o,ho,_⟩ | ⟨ho,_⟩
   ·exact .inr (.inl (.inl (Oz.g8.mpr ⟨_,ho,rfl⟩)))
   ·exact .inl (Oz.g15 ho)
  ·exact .inr (.inl (.inr hcm))
  ·exact .inr (.inr (.inl (.inr hcm)))
  ·rcases hcm with rfl | hcm
   ·exact .inr (.inr (.inl (.inl rfl)))
   ·cases hcm
 refine⟨y.sh,⟨m,⟨ns,y.keepBase,F.above⟩,hl,fun k z v a b=>?_⟩,fun q hq=>?_,y.len,y.obj,?_,fun c hcm=>?_,fun q hq=>y.hidden q (Oz.g24 _ hq),fun q hq=>y.below q (by rw [hfr]; exact .tail _ hq)⟩
 ·obtain⟨v',h1,h2⟩:=hm k z v a b
  rcases h2 with ⟨h3,h4⟩ | ⟨h3,c,h4,h5⟩
  ·exact⟨v',h1.mono p,.inl ⟨h3,h4⟩⟩
  ·rcases hc _ (bk h4) with ⟨o,ho,hg⟩ | ⟨ho,hk⟩
   ·obtain⟨o',e1,e2⟩:=h5
    rw [hg] at e1; cases e1
    exact⟨v',h1.mono p,.inr ⟨h3,c,h4,o,y.hidden _ (Oz.g18 _ ho),e2⟩⟩
   ·refine Oz.z fun ζ2 η2=>?_
    obtain⟨k1,k2,k3,k4⟩:=hk k a
    obtain⟨v'',j1,j2⟩:=hm' k z v k1 (k2.trans b)
    refine η2 ?_
    refine⟨v'',j1,.inr ⟨h3,c,h4,?_⟩⟩
    rcases j2 with ⟨j3,_⟩ | ⟨_,c',j4,j5⟩
    ·exact absurd j3 k3
    ·have:c'=c:=Option.some.inj (j4.symm.trans k4)
     subst this; exact j5
 ·rcases hc q hq with ⟨o,ho,hg⟩ | ⟨ho,_⟩
  ·obtain⟨v,o',e1,e2⟩:=x.cel q hq
   rw [hg] at e1; cases e1
   exact⟨v,o,y.hidden _ (Oz.g18 _ ho),e2⟩
  ·exact y.cel q ho
 ·unfold Fm.adr
  rw [Oz.g17]
  exact⟨yn.1,xn.2.1,fun a ha b hb=>yn.2.2 a ha b (sub b hb)⟩
 ·unfold Fm.adr at hcm
  rcases Oz.g1.mp hcm with hcm | hcm
  ·exact y.fresh c (Oz.g18 _ hcm)
  ·exact x.fresh c (Oz.g24 _ hcm)
theorem At.enter (x:At Γ f hid ρ l h s) (hs:s'={ Γ.s₀ with heap:=s'.heap,toks:=s'.toks }) (k:∀ b o,s.heap.get? b=some o→s'.heap.get? b=some o)
  (hL:s.heap.get? f.env.locals=some oL) (hfr:f'.fr0=(f.env.locals,oL)::f.fr0) (hHC:∀ q∈HC,s.heap.get? q.1=some q.2)
  (hN:(f'.cells.map (·.2)++(HC.map (·.1)++[f'.env.locals])).Nodup) (hM:∀ c∈f'.cells.map (·.2)++HC.map (·.1),c∈f.cells.map (·.2)∨s.heap.objs.size≤c) (hM' : s.heap.objs.size≤f'.env.locals)
  (hcel:∀ q∈f'.cells,∃ v,s'.heap.IsCell q.2 v)
  (hm:∃ m,s'.heap.Ns f'.env.locals m∧l'.length=f'.slots.length∧∀ (k:Nat) (y:Str) (v:AV),f'.slots[k]?=some (some y)→l'[k]?=some (some v) →
   ∃ v',VR ρ v v'∧((f'.env.kindOf y=some .local∧m y=some v')∨(f'.env.kindOf y≠some .local∧∃ c,f'.cells.lookup y=some c∧s'.heap.IsCell c (some v')))):At Γ f' (HC++hid) ρ l' h s' := by
 obtain⟨m,hn,hl,hr⟩:=hm
 have base_none:∀ c,s.heap.objs.size≤c→Γ.base.get? c=none:=fun c hc=>by
  cases q:Γ.base.get? c with
  | none=>rfl
  | some o=>exact absurd (Oz.g27 (Heap.lt_size (x.keepBase _ _ q)) hc) (Nat.lt_irrefl _)
 have above:Γ.base.objs.size≤f'.env.locals:=by
  obtain⟨_,F,_⟩:=x.frm
  exact Oz.g2 (Oz.g2 F.above (Nat.le_of_lt F.ns.lt)) hM'
 have perm:(f'.adr (HC++hid) ρ).Perm ((f'.cells.map (·.2)++(HC.map (·.1)++[f'.env.locals]))++(ρ++(hid.map (·.1)++(f.fr0.map (·.1)++[f.env.locals])))):=by
  unfold Fm.adr
  rw [hfr,List.map_cons,← List.singleton_append,List.map_append]
  refine List.perm_iff_count.mpr fun a=>?_
  simp only [List.count_append]
  exact Oz.o564
 have permX:(f.adr hid ρ).Perm (f.cells.map (·.2)++(ρ++(hid.map (·.1)++(f.fr0.map (·.1)++[f.env.locals])))):=by
  unfold Fm.adr
  refine List.perm_iff_count.mpr fun a=>?_
  simp only [List.count_append]
  exact Oz.o565
 have xn:=permX.nodup_iff.mp x.nodup
 rw [Oz.g17] at xn
 have inX:∀ c∈ρ++(hid.map (·.1)++(f.fr0.map (·.1)++[f.env.locals])),c∈f.adr hid ρ:=fun c hc=>permX.mem_iff.mpr (Oz.g24 _ hc)
 have hMM:∀ c∈f'.cells.map (·.2)++(HC.map (·.1)++[f'.env.locals]),c∈f.cells.map (·.2)∨s.heap.objs.size≤c:=fun c hc=>by
  rw [← Oz.g19] at hc
  rcases Oz.g1.mp hc with hc | hc
  ·exact hM c hc
  ·rw [Oz.g9.mp hc]; exact .inr hM'
 have y:=x.grow hs k
 refine⟨hs,⟨m,⟨hn,y.keepBase,above⟩,hl,hr⟩,hcel,x.len,y.obj,?_,fun c hc=>?_,fun q hq=>?_,fun q hq=>?_⟩
 ·rw [perm.nodup_iff,Oz.g17]
  refine⟨hN,xn.2.1,fun a ha b hb e=>?_⟩
  subst e
  rcases hMM a ha with hc | hc
  ·exact xn.2.2 a hc a hb rfl
  ·exact absurd (Oz.g27 (x.all_lt a (inX a hb)) hc) (Nat.lt_irrefl _)
 ·rcases Oz.g1.mp (perm.mem_iff.mp hc) with hc | hc
  ·rcases hMM c hc with hc | hc
   ·exact x.fresh c (permX.mem_iff.mpr (Oz.g18 _ hc))
   ·exact base_none c hc
  ·exact x.fresh c (inX c hc)
 ·rcases Oz.g1.mp hq with hq | hq
  ·exact k _ _ (hHC q hq)
  ·exact y.hidden q hq
 ·rw [hfr] at hq
  rcases Oz.g6.mp hq with rfl | hq
  ·exact⟨oL.slots,k _ _ hL⟩
  ·exact y.below q hq
end
end Sk
namespace Sk
open PySem PySem.Calls PySem.W PyProof.Rows PySem.Spec
noncomputable def Bu (Γ:Cx) (f:Fm) (hid:List (Addr×Obj)) (ρ:List Addr) (l:LOC) (ik:IK) (Q:Value→Shared→Prop) (r:List AV×Grd) (h' : HP):Prop :=
 ∀ it H hx ρ' s' pin,(p0 ik=false→pin=none)→ρ<+:ρ'→ItrQ Γ it r.1 r.2 pin H→Pn pin ρ' s'→H 0 hx ρ'→okG r.2 h'=true→At Γ f (hx++hid) ρ' l h' s'→Q (.ref it) s'
noncomputable def ui (Γ:Cx) (f:Fm) (hid:List (Addr×Obj)) (ρ:List Addr) (l:LOC) (ik:IK) (Q:Value→Shared→Prop) (vs:List AV) (h' : HP):Prop :=
 match bp ik vs h' with
 | some r=>Bu Γ f hid ρ l ik Q r h'
 | Option.none=>False
theorem Fd {tx:Tx}{sc:Sc}{c:CE}{e:Expr}(h:mtE tx sc c e=true) (env:Env) (x:Value):foldedSetIterable e env x=pure x:=by
 have h:=km h
 cases e with
 | Set a b d=>exact ba h
 | _=>rfl
theorem Aj {i:Nat}{o:AO}{h:HP}(e:h[i]?=some o):okG (some (i,o)) h=true:=decide_eq_true e
theorem Kb {tx:Tx}{sc:Sc}{es:CEs}{e:Expr}(h:mtEs tx sc es [e]=true):∃ c,es=.cons c .nil∧mtE tx sc c e=true:=by
 cases es with
 | nil=>exact ba h
 | cons c r =>
  obtain⟨h1,h2⟩:=Oz.g14.mp h
  cases r with
  | nil=>exact⟨c,rfl,h1⟩
  | cons d r=>exact ba h2
theorem yp {sc:Sc}{x:Str}{n:Nat}{e:Expr}{args:List Expr}(h:A0 sc x n e=some args):Oz.E2 fun px pos=>e=.Call (.Name x px) args [] pos∧glb sc x=true:=by
 refine Oz.z fun ζ η=>?_
 obtain⟨⟨y,py,as,p⟩,h1,h2⟩:=Oz.g22.mp h
 refine η ?_
 by_cases q:(y == x&&glb sc y&&as.length == n)=true
 ·have h2:some as=some args:=(if_pos (c:=(y == x&&glb sc y&&as.length == n)=true) q).symm.trans h2
  cases h2
  simp only [Oz.g5,beq_iff_eq] at q
  obtain⟨⟨rfl,hg⟩,_⟩:=q
  exact⟨_,_,oh h1,hg⟩
 ·exact br ((if_neg (c:=(y == x&&glb sc y&&as.length == n)=true) q).symm.trans h2)
theorem rv {tx:Tx}{sc:Sc}{ik:IK}{es:CEs}{e:Expr}(h:nw tx sc ik es e=true) :
  ((ik=.val∨ik=.keys)∧∃ c,es=.cons c .nil∧mtE tx sc c e=true)∨Oz.E4 fun x px args pos=>e=.Call (.Name x px) args [] pos∧mtEs tx sc es args=true∧glb sc x=true∧((x = "range" ∧ (ik=.range1∨ik=.range3))∨(x = "reversed" ∧ ik=.rev)):=by
 obtain⟨args,h1,h2⟩:=any_some h
 cases ik with
 | val=>cases h1; exact .inl ⟨.inl rfl,Kb h2⟩
 | keys=>exact br h1
 | enum=>exact br h1
 | range1=>obtain⟨px,pos,e1,hg⟩:=yp h1; exact .inr ⟨_,px,args,pos,e1,h2,hg,.inl ⟨rfl,.inl rfl⟩⟩
 | range3=>exact br h1
 | rev=>obtain⟨px,pos,e1,hg⟩:=yp h1; exact .inr ⟨_,px,args,pos,e1,h2,hg,.inr ⟨rfl,rfl⟩⟩
theorem Hv {vs:List AV}{h:HP}{r:List AV×Grd}(e:bp .range1 vs h=some r):∃ m:Int,vs=[.int m]∧m.natAbs<2^62∧r=((List.range m.toNat).map fun(k:Nat)=>.int (k:Int),Option.none):=by
 cases vs with
 | nil=>exact br e
 | cons v w =>
  cases w with
  | cons _ _=>cases v <;> exact br e
  | nil =>
   cases v with
   | int m =>
    by_cases hz:m.natAbs<2^62
    ·exact⟨m,rfl,hz,(Option.some.inj ((if_pos hz).symm.trans e)).symm⟩
    ·exact br ((if_neg hz).symm.trans e)
   | _=>exact br e
theorem items_rev {vs:List AV}{h:HP}{r:List AV×Grd}(e:bp .rev vs h=some r):Oz.E2 fun i ws=>vs=[.ref i]∧h[i]?=some (.list ws)∧r=(ws.reverse,some (i,.list ws)):=by
 cases vs with
 | nil=>exact br e
 | cons v w =>
  cases w with
  | cons _ _=>cases v <;> exact br e
  | nil =>
   cases v with
   | ref i =>
    have e:(match h[i]? with | some (.list vs)=>some (vs.reverse,some (i,.list vs)) | _=>Option.none)=some r:=e
    cases q:h[i]? with
    | none=>rw [q] at e; exact br e
    | some o =>
     rw [q] at e
     cases o with
     | list ws=>exact⟨i,ws,rfl,q,(Option.some.inj e).symm⟩
     | _=>exact br e
   | _=>exact br e
theorem Ft {v:AV}{h:HP}{r:List AV×Grd}(e:bp .val [v] h=some r):∃ i,v=.ref i∧((∃ vs,h[i]?=some (.list vs)∧r=(vs,some (i,.list vs)))∨∃ vs,h[i]?=some (.tup vs)∧r=(vs,some (i,.tup vs))):=by
 cases v with
 | ref i =>
  have e:(match h[i]? with | some (.list vs)=>some (vs,some (i,AO.list vs)) | some (.tup vs)=>some (vs,some (i,.tup vs)) | _=>Option.none)=some r:=e
  cases q:h[i]? with
  | none=>rw [q] at e; exact br e
  | some o =>
   rw [q] at e
   cases o with
   | list ws=>exact⟨i,rfl,.inl ⟨ws,q,(Option.some.inj e).symm⟩⟩
   | tup ws=>exact⟨i,rfl,.inr ⟨ws,q,(Option.some.inj e).symm⟩⟩
   | _=>exact br e
 | _=>exact br e
theorem qz {Γ:Cx}{f:Fm}{hid:List (Addr×Obj)}{ρ:List Addr}{l:LOC}{ik:IK}{Q:Value→Shared→Prop}{vs:List AV}{h' : HP}(p:ui Γ f hid ρ l ik Q vs h'):∃ r,bp ik vs h'=some r∧Bu Γ f hid ρ l ik Q r h' := by
 unfold ui at p
 cases q:bp ik vs h' with
 | none=>rw [q] at p; exact p.elim
 | some r=>rw [q] at p; exact⟨r,rfl,p⟩
theorem rb {tx:Tx}{sc:Sc}{ik:IK}{es:CEs}{e:Expr}(h:nw tx sc ik es e=true) (env:Env) (x:Value):foldedSetIterable e env x=pure x:=by
 rcases rv h with ⟨_,c,_,hm⟩ | ⟨_,_,_,_,rfl,_⟩
 ·exact Fd hm env x
 ·rfl
section
variable {Γ:Cx}{Rz:Rise}{cl:CallO}{n:Nat}{f:Fm}{hid:List (Addr×Obj)}{ρ ρ' : List Addr}{l:LOC}{h:HP}{s:Shared}{E:Value→Shared→Prop}{Q:Value→Shared→Prop}
theorem zy {ik:IK}{es:CEs}{iter:Expr}(cx:CxOk Γ) (cf:CxFn Γ) (he:ji Γ Rz cl n es) (hv:∀ c,es=.cons c .nil→bg Γ Rz cl n c) (ok:FmK n f) (hm:nw Γ.tx f.sc ik es iter=true) (t:At Γ f hid ρ l h s)
  (p:aw (evs Γ.G cl es l h) (ui Γ f hid ρ l ik Q) (EXQ Rz f hid ρ l E)) :
  wpAny (model Γ.prog Γ.w) f.A (eval iter f.env) (fun x s₁=>wpAny (model Γ.prog Γ.w) f.A (pyIter x) Q E s₁) E s:=by
 have hmc:=rv hm
 cases ik with
 | enum=>cases hm
 | val =>
  rcases hmc with ⟨_,c,rfl,hmv⟩ | ⟨_,_,_,_,_,_,_,hq⟩
  ·refine hv c rfl f _ ok hmv hid ρ l h s _ E t (p.thenE fun x h1 p1 v' ρ1 s1 pre1 t1 vr1=>?_)
   obtain⟨r,er,p1⟩:=qz (show ui Γ f hid ρ l .val Q [x] h1 from p1)
   obtain⟨i,rfl,⟨vs,ei,rfl⟩ | ⟨vs,ei,rfl⟩⟩:=Ft er
   ·refine Oz.z fun ζ η=>?_
    obtain⟨ad,had,rfl⟩:=vr1
    obtain⟨o,g1,r1⟩:=t1.obj i _ ad ei had
    obtain⟨vs',l1,v1⟩:=ci g1 r1
    refine η ?_
    refine wpAny_pyIter_list l1 (p1 _ _ [(_,_)] _ _ none (fun ζ=>rfl) pre1 Hu.to Pn.none ⟨ad,_,had,rfl,rfl,rfl⟩ (Aj ei) (t1.hidNew (by rw [t1.sh]) (fun b o e=>Heap.get?_push_of_some _ e) (Oz.g3 _) (Heap.get?_push_size _ rfl)))
   ·refine Oz.z fun ζ1 η1=>?_
    obtain⟨ad,had,rfl⟩:=vr1
    obtain⟨o,g1,r1⟩:=t1.obj i _ ad ei had
    obtain⟨vs',l1,_,v1⟩:=n7 g1 r1
    refine η1 ?_
    refine wpAny_pyIter_tuple l1 (p1 _ _ [(_,_)] _ _ none (fun ζ=>rfl) pre1 Ki.to Pn.none ⟨ad,_,had,rfl,rfl,rfl⟩ (Aj ei) (t1.hidNew (by rw [t1.sh]) (fun b o e=>Heap.get?_push_of_some _ e) (Oz.g3 _) (Heap.get?_push_size _ rfl)))
  ·rcases hq with ⟨_,q | q⟩ | ⟨_,q⟩ <;> cases q
 | keys=>cases hm
 | range1 =>
  rcases hmc with ⟨q,_⟩ | ⟨_,_,_,_,rfl,m1,hg,hq⟩
  ·rcases q with q | q <;> cases q
  ·have hx:=hq
   rcases hx with ⟨hx,q⟩ | ⟨hx,q⟩
   all_goals first | (cases q; done) | (rcases q with q | q <;> cases q; done) | skip
   subst hx
   refine Call_Name rfl (t.blt ok.toFmOk cx cf hg (by decide) (by decide) Boot.«range» ?_)
   refine PySem.callWith_type (first:=[]) (bv _ _ m1) (cu (bv _ _ m1) (he f _ _ ok m1 hid ρ l h s _ E t (p.mono (fun vs h1 p1 vs' ρ1 s1 pre1 t1 vr1=>?_) fun ζ ζ x=>x)))
   refine Oz.z fun ζ2 η2=>?_
   obtain⟨r,er,p1⟩:=qz p1
   obtain⟨m,rfl,hz,rfl⟩:=Hv er
   refine η2 ?_
   ··cases vr1 with
     | cons v1 r1 =>
      cases r1
      obtain⟨u,rfl⟩:=v1
      refine call_range_1 ?_
      have hsz:Builtin.Range.rangeSize 0 m 1=(m.toNat:Int):=by rw [rangeSize_one]; split <;> (first | exact Oz.o566 ‹_› | exact Oz.o567 ‹_›)
      refine wpAny_pyIter_range (IsRange.new ..) (small_one (by decide) (by decide) (Oz.o589 hz) (Oz.o590 hz)) ?_
      rw [hsz]
      have ta:=t1.grow (s' := { s1 with heap:=s1.heap.push { cls:=.type "range",data:=.fields #[.int 0 s1.toks,.int m u,.int 1 (s1.toks+1)] },toks:=s1.toks+1+1 }) (by rw [t1.sh]) fun b o e=>Heap.get?_push_of_some _ e
      have e0:(List.range m.toNat).map (fun(k:Nat)=>AV.int (k:Int))=(List.range m.toNat).map fun(k:Nat)=>AV.int (0+(k:Int)*1):=by simp
      have I:=fun it=>Fs (Γ:=Γ) (it:=it) (a:=0) (c:=1) (n:=m.toNat)
      rw [← e0] at I
      refine p1 _ _ [(_,_)] _ _ none (fun ζ=>rfl) pre1 (I _).to Pn.none ⟨Nat.zero_le _,by simp⟩ rfl (ta.hidNew (by rw [t1.sh]) (fun b o e=>Heap.get?_push_of_some _ e) (Oz.g3 _) (Heap.get?_push_size _ rfl))
 | range3=>cases hm
 | rev =>
  rcases hmc with ⟨q,_⟩ | ⟨_,_,_,_,rfl,m1,hg,hq⟩
  ·rcases q with q | q <;> cases q
  ·have hx:=hq
   rcases hx with ⟨hx,q⟩ | ⟨hx,q⟩
   all_goals first | (cases q; done) | (rcases q with q | q <;> cases q; done) | skip
   subst hx
   refine Call_Name rfl (t.blt ok.toFmOk cx cf hg (by decide) (by decide) Boot.«reversed» ?_)
   refine PySem.callWith_type (first:=[]) (bv _ _ m1) (cu (bv _ _ m1) (he f _ _ ok m1 hid ρ l h s _ E t (p.mono (fun vs h1 p1 vs' ρ1 s1 pre1 t1 vr1=>?_) fun ζ ζ x=>x)))
   refine Oz.z fun ζ3 η3=>?_
   obtain⟨r,er,p1⟩:=qz p1
   obtain⟨i,ws,rfl,ei,rfl⟩:=items_rev er
   refine η3 ?_
   ··cases vr1 with
     | cons v1 r1 =>
      cases r1
      refine Oz.z fun ζ4 η4=>?_
      obtain⟨ad,had,rfl⟩:=v1
      obtain⟨o,g1,r1⟩:=t1.obj i _ ad ei had
      obtain⟨ws',l1,v1⟩:=ci g1 r1
      refine η4 ?_
      refine call_reversed_list l1 ?_
      have hi:({ s1 with heap:=s1.heap.push (revObj ad ((ws'.toArray.size:Int) - 1)) }:Shared).heap.IsRevIter s1.heap.objs.size ad ((ws'.toArray.size:Int) - 1):=⟨_,Heap.get?_push_size _ rfl,rfl,rfl⟩
      refine wpAny_pyIter_revIter hi ?_
      refine p1 _ _ [(_,_)] _ _ none (fun ζ=>rfl) pre1 Kj.to Pn.none ⟨Nat.zero_le _,ad,_,had,rfl,rfl,?_⟩ (Aj ei) (t1.hidNew (by rw [t1.sh]) (fun b o e=>Heap.get?_push_of_some _ e) (Oz.g3 _) (Heap.get?_push_size _ rfl))
      simp [revObj,v1.length]
end
end Sk
namespace Sk
open PySem PySem.Calls PySem.W PyProof.Rows PySem.Spec
noncomputable def dr (cells:List (Str×Addr)):List (Str×NameKind)→List (Str×Addr)
 | []=>[]
 | (n,k)::r=>if k == .free then dr cells r++[(n,(cells.lookup n).getD 0)] else dr cells r
theorem Dy {env:Env}{scope:Scope}(h:∀ p∈scope.names,p.2=.free→∃ c,env.cells.lookup p.1=some c):closureFor scope env=pure (dr env.cells scope.names):=by
 unfold closureFor
 generalize scope.names=names at h ⊢
 have key:∀ (names:List (Str×NameKind)) (acc:List (Str×Addr)) (f:Str×NameKind→List (Str×Addr)→Sem (ForInStep (List (Str×Addr)))),
   (∀ name kind acc,f (name,kind) acc=if (kind == .free)=true then (do let c ← cellOf env name; pure (.yield ((name,c)::acc))) else pure (.yield acc)) →
   (∀ p∈names,p.2=.free→∃ c,env.cells.lookup p.1=some c)→forIn names acc f=pure (dr env.cells names++acc):=by
  intro names
  induction names with
  | nil=>intro acc f _ _; rfl
  | cons p r ih =>
   obtain⟨n,k⟩:=p
   intro acc f hf hc
   rw [List.forIn_cons,hf]
   unfold dr
   by_cases hk:(k == NameKind.free)=true
   ·rw [if_pos hk,if_pos hk]
    obtain⟨c,e⟩:=hc (n,k) (.head _) (eq_of_beq hk)
    have:cellOf env n=pure c:=by unfold cellOf; rw [e]
    rw [this,pure_bind,pure_bind]
    simp only
    rw [ih _ f hf fun p hp=>hc p (.tail _ hp),e]
    simp
   ·rw [if_neg hk,if_neg hk,pure_bind]
    simp only
    exact ih _ f hf fun p hp=>hc p (.tail _ hp)
 dsimp only
 rw [key names [] _ ?hf h,List.append_nil]
 ·rfl
 case hf =>
  intro name kind acc
  simp only
set_option tactic.hygienic true in
theorem me {cells:List (Str×Addr)}:∀ {names:List (Str×NameKind)}{q:Str×Addr},q∈dr cells names→(q.1,.free)∈names∧q.2=(cells.lookup q.1).getD 0
 | [],q,h=>by cases h
 | (n,k)::r,q,h=>by
  unfold dr at h
  split at h
  ·rename_i hk
   rcases Oz.g1.mp h with h | h
   ·obtain⟨a,b⟩:=me h; exact⟨.tail _ a,b⟩
   ·cases Oz.g9.mp h
    rw [eq_of_beq hk]
    exact⟨.head _,rfl⟩
  ·obtain⟨a,b⟩:=me h; exact⟨.tail _ a,b⟩
theorem ir {cells:List (Str×Addr)}:∀ {names:List (Str×NameKind)},(names.map (·.1)).Nodup→((dr cells names).map (·.1)).Nodup
 | [],_=>List.nodup_nil
 | (n,k)::r,h=>by
  rw [List.map_cons,Oz.g20] at h
  unfold dr
  split
  ·rw [List.map_append,Oz.g17]
   refine⟨ir h.2,by simp,fun a ha b hb e=>?_⟩
   obtain⟨q,hq,rfl⟩:=Oz.g8.mp ha
   simp only [List.map_cons,List.map_nil,Oz.g9] at hb
   exact h.1 (Oz.g8.mpr ⟨_,(me hq).1,(e.trans hb)⟩)
  ·exact ir h.2
theorem sy {cells:List (Str×Addr)}:∀ {names:List (Str×NameKind)}{n:Str},(n,.free)∈names→(n,(cells.lookup n).getD 0)∈dr cells names
 | (m,k)::r,n,h=>by
  unfold dr
  rcases Oz.g6.mp h with e | h
  ·cases e
   rw [if_pos (by rfl)]
   exact Oz.g24 _ (.head _)
  ·split
   ·exact Oz.g18 _ (sy h)
   ·exact sy h
theorem ds {β:Type}{n:Str}{c:β}:∀ {l:List (Str×β)},(l.map (·.1)).Nodup→(n,c)∈l→l.lookup n=some c
 | (m,d)::r,hn,h=>by
  rw [List.map_cons,Oz.g20] at hn
  rw [List.lookup_cons]
  rcases Oz.g6.mp h with e | h
  ·cases e; simp
  ·by_cases q:(n == m)=true
   ·exact absurd (Oz.g8.mpr ⟨_,h,eq_of_beq q⟩) hn.1
   ·rw [Bool.eq_false_iff.mpr q]; exact ds hn.2 h
theorem mv (sc:Sc):∀ (names:List (Str×NameKind)) (n:Str),(fo sc names).lookup n=(names.lookup n).map fun k=>if k == .free&&true&&sc.names.lookup n == some .cell then .cell else k
 | [],n=>rfl
 | (m,k)::r,n=>by
  have ih:=mv sc r n
  unfold fo at ih ⊢
  rw [List.map_cons]
  by_cases hc:(k == .free&&true&&sc.names.lookup m == some .cell)=true
  ·simp only [hc,if_true]
   rw [List.lookup_cons,List.lookup_cons]
   by_cases q:(n == m)=true
   ·have:=eq_of_beq q; subst this
    simp only [q,Option.map_some,hc,if_true]
   ·have q' := Bool.eq_false_iff.mpr q
    rw [q']; exact ih
  ·show List.lookup n ((if (k == .free&&true&&sc.names.lookup m == some .cell)=true then (m,NameKind.cell) else (m,k))::List.map _ r)=_
   rw [if_neg hc,List.lookup_cons,List.lookup_cons]
   by_cases q:(n == m)=true
   ·have:=eq_of_beq q; subst this
    rw [q,Option.map_some,if_neg hc]
   ·have q' := Bool.eq_false_iff.mpr q
    rw [q']; exact ih
structure CompFacts (sc:Sc) (x:Str) (scope:Scope):Prop where
 kind:scope.kind=.function
 var:scope.names.lookup x=some .local
 nocell:∀ p∈scope.names,p.2≠.cell
 loc:∀ p∈scope.names,p.2=.local→scope.names.lookup p.1=some .local
 free:∀ p∈scope.names,p.2=.free→sc.names.lookup p.1=some .cell
 nd:(scope.names.map (·.1)).Nodup
theorem Bl {sc:Sc}{x:Str}{scope:Scope}(h:sw sc x scope=true):CompFacts sc x scope:=by
 unfold sw at h
 simp only [Oz.g5,beq_iff_eq,decide_eq_true_eq,List.all_eq_true,bne_iff_ne,ne_eq,Bool.or_eq_true] at h
 obtain⟨⟨⟨h1,h2⟩,h3⟩,h4⟩:=h
 exact⟨h1,h2,fun p hp=>(h3 p hp).1.1,fun p hp e=>((h3 p hp).1.2).resolve_left fun q=>q e,fun p hp e=>((h3 p hp).2).resolve_left fun q=>q e,h4⟩
noncomputable def dy (f:Fm) (scope:Scope) (C:Addr) (oL:Obj) (x:Str):Fm :=
 ⟨compEnvC scope (dr f.env.cells scope.names) C f.env,f.A,(c7 f.sc x scope.names).slots,dr f.env.cells scope.names,(f.env.locals,oL)::f.fr0,f.outer⟩
section
variable {Γ:Cx}{n:Nat}{f:Fm}{hid hid' HC:List (Addr×Obj)}{ρ ρ' : List Addr}{l:LOC}{h:HP}{s:Shared}{scope:Scope}{x:Str}{C:Addr}{oL:Obj}
theorem ra (ok:FmOk f):(relabel scope f.env).names=fo f.sc scope.names:=by
 unfold relabel fo
 refine List.map_congr_left fun p hp=>?_
 obtain⟨m,k⟩:=p
 simp only [ok.kind]
 rfl
theorem Ky (ok:FmOk f):(dy f scope C oL x).sc=c7 f.sc x scope.names:=by
 show Sc.mk (relabel scope f.env).names _ _=_
 rw [ra ok]; rfl
theorem lh (ok:FmOk f) (m:Str):(dy f scope C oL x).env.kindOf m=(fo f.sc scope.names).lookup m:=by
 show(relabel scope f.env).names.lookup m=_
 rw [ra ok]
theorem sj (ok:FmOk f) (cf:CompFacts f.sc x scope):∀ p∈scope.names,p.2=.free→∃ c,f.cells.lookup p.1=some c∧f.env.cells.lookup p.1=some c:=fun p hp e=>ok.cel p.1 (cf.free p hp e)
set_option tactic.hygienic true in
theorem mq (ok:FmOk f) (cf:CompFacts f.sc x scope){m:Str}(h:(fo f.sc scope.names).lookup m=some .cell):(m,.free)∈scope.names:=by
 rw [mv] at h
 obtain⟨k,e1,e2⟩:=Oz.g11.mp h
 have hm:=bk e1
 split at e2
 ·rename_i q
  simp only [Oz.g5,beq_iff_eq] at q
  rw [q.1.1] at hm; exact hm
 ·exact absurd e2 (cf.nocell _ hm)
theorem mo (ok:FmOk f) (cf:CompFacts f.sc x scope){m:Str}(h:(m,NameKind.free)∈scope.names):∃ c,f.cells.lookup m=some c∧(dr f.env.cells scope.names).lookup m=some c:=by
 obtain⟨c,e1,e2⟩:=sj ok cf _ h rfl
 refine⟨c,e1,ds (ir cf.nd) ?_⟩
 have:=sy (cells:=f.env.cells) h
 rw [show(f.env.cells.lookup m).getD 0=c by rw [e2]; rfl] at this
 exact this
theorem kt (ok:FmOk f) (cf:CompFacts f.sc x scope){q:Str×Addr}(h:q∈dr f.env.cells scope.names):q∈f.cells∧f.cells.lookup q.1=some q.2:=by
 obtain⟨a,b⟩:=me h
 obtain⟨c,e1,e2⟩:=sj ok cf _ a rfl
 rw [e2] at b
 have b:q.2=c:=b
 rw [← b] at e1
 exact⟨bk e1,e1⟩
theorem mi {k:Nat}{m:Str}(h:(c7 f.sc x scope.names).slots[k]?=some (some m)):(f.slots[k]?=some (some m)∧(fo f.sc scope.names).lookup m=some .cell)∨(k=f.slots.length∧m=x):=by
 unfold c7 at h
 by_cases hk:k<f.slots.length
 ·rw [Oz.g23 (by simpa [Fm.sc] using hk),Oz.g12] at h
  obtain⟨o,e1,e2⟩:=Oz.g11.mp h
  have:=Option.filter_eq_some_iff.mp e2
  refine .inl ⟨?_,by simpa using this.2⟩
  rw [show f.slots[k]?=some o from e1,this.1]
 ·have hk' : k=f.slots.length:=by
   have:=(Oz.g4.mp h).1
   simp [Fm.sc] at this; exact Oz.o539 hk this
  subst hk'
  rw [Oz.g29 (by simp [Fm.sc])] at h
  simp [Fm.sc] at h
  exact .inr ⟨rfl,h.symm⟩
theorem B1 {k:Nat}{m:Str}(h:f.slots[k]?=some (some m)) (hc:(fo f.sc scope.names).lookup m=some .cell):(c7 f.sc x scope.names).slots[k]?=some (some m):=by
 unfold c7
 have hk:=(Oz.g4.mp h).1
 rw [Oz.g23 (by simpa [Fm.sc] using hk),Oz.g12]
 show Option.map _ f.slots[k]?=_
 rw [h]
 simp [Option.filter,hc]
theorem Cz (ok:FmOk f){q:Str×Addr}{c:Addr}(h:q∈f.cells) (h' : (q.1,c)∈f.cells):c=q.2:=by
 have:=ds ok.cnd h'
 rw [ds ok.cnd (show(q.1,q.2)∈f.cells from h)] at this
 exact(Option.some.inj this).symm
theorem Ih (ok:FmK n f) (cf:CompFacts f.sc x scope) (hoL:∀ vs,oL.data≠.fields vs):FmK n (dy f scope C oL x):=by
 have xl:(fo f.sc scope.names).lookup x=some .local:=by rw [mv,cf.var]; rfl
 refine⟨⟨cf.kind,ok.glob,ok.blt,fun i j m hi hj=>?_,fun k m hk=>?_,fun m hm=>?_,ir cf.nd,?_,fun p hp=>?_⟩,ok.room,ok.units⟩
 ·rcases mi hi with ⟨a1,b1⟩ | ⟨a1,rfl⟩
  ·rcases mi hj with ⟨a2,b2⟩ | ⟨a2,rfl⟩
   ·exact ok.nd i j m a1 a2
   ·rw [xl] at b1; cases b1
  ·rcases mi hj with ⟨a2,b2⟩ | ⟨a2,_⟩
   ·rw [xl] at b2; cases b2
   ·rw [a1,a2]
 ·rw [lh ok.toFmOk]
  rcases mi hk with ⟨a1,b1⟩ | ⟨a1,rfl⟩
  ·obtain⟨c,_,e⟩:=mo ok.toFmOk cf (mq ok.toFmOk cf b1)
   exact .inr ⟨b1,c,e,e⟩
  ·exact .inl xl
 ·rw [lh ok.toFmOk] at hm
  obtain⟨c,_,e⟩:=mo ok.toFmOk cf (mq ok.toFmOk cf hm)
  exact⟨c,e,e⟩
 ·refine Oz.z fun ζ η=>?_
  obtain⟨e,o,h1,h2,h3⟩:=ok.frs
  refine η ?_
  exact⟨e,o,h1,h2,fun x hx=>⟨(h3 x hx).1,(h3 x hx).2.imp fun L q=>⟨q.1,.tail _ q.2⟩⟩⟩
 ·rcases Oz.g6.mp (show p∈(f.env.locals,oL)::f.fr0 from hp) with rfl | hp
  ·exact hoL
  ·exact ok.fnf p hp
theorem At.hperm (t:At Γ f hid ρ l h s) (p:hid.Perm hid'):At Γ f hid' ρ l h s :=
 t.rehid [] t.sh (fun ζ ζ ζ e=>e) (fun ζ h=>by cases h) (fun q hq=>t.hidden q (p.mem_iff.mpr hq)) ((p.map _).nodup_iff.mp (cp.mp t.nodup).1) fun q hq=>t.hidOff (p.mem_iff.mpr hq)
theorem At.unveil {D:Addr}{o:Obj}{ao:AO}(t:At Γ f ((D,o)::hid) ρ l h s) (hr:kx Γ (ρ++[D]) ao o):At Γ f hid (ρ++[D]) l (h++[ao]) s:=by
 have nd:=cp.mp t.nodup
 refine(At.unhide (hx:=[(D,o)]) t).adopt (t.hidden _ (.head _)) (fun d hd e=>?_) (t.hidOff (p:=(D,o)) (.head _)).2 hr
 subst e
 rcases jt.mp hd with hd | hd
 ·exact(Oz.g20.mp nd.1).1 hd
 ·exact(t.hidOff (p:=(d,o)) (.head _)).1 hd
noncomputable def ky (f:Fm) (scope:Scope) (hp:Heap):List (Addr×Obj):=fv hp ((f.cells.filter fun q=>((dr f.env.cells scope.names).lookup q.1).isNone).map (·.2))
theorem ot {hp:Heap}{p:Addr×Obj}(h:p∈ky f scope hp):(∃ q∈f.cells,q.2=p.1∧(dr f.env.cells scope.names).lookup q.1=none)∧hp.get? p.1=some p.2:=by
 refine Oz.z fun ζ η=>?_
 obtain⟨h1,h2⟩:=ey h
 obtain⟨q,hq,e⟩:=Oz.g8.mp h1
 obtain⟨a,b⟩:=Oz.g25.mp hq
 refine η ?_
 exact⟨⟨q,a,e,by simpa using b⟩,h2⟩
theorem At.comp (t:At Γ f hid ρ l h s) (ok:FmK n f) (cf:CompFacts f.sc x scope){s' : Shared}(hs:s'={ Γ.s₀ with heap:=s'.heap,toks:=s'.toks }) (k:∀ b o,s.heap.get? b=some o→s'.heap.get? b=some o)
  (hL:s.heap.get? f.env.locals=some oL) (hC:s.heap.objs.size≤C){m:Str→Option Value}(hn:s'.heap.Ns C m):At Γ (dy f scope C oL x) (ky f scope s.heap++hid) ρ (l++[none]) h s' := by
 have nd:=t.nodup
 unfold Fm.adr at nd
 rw [Oz.g17] at nd
 have cnd:=(Oz.g17.mp nd.2.1).1
 have clt:∀ q∈f.cells,q.2<s.heap.objs.size:=fun q hq=>t.all_lt _ (by unfold Fm.adr; simp only [Oz.g1]; exact .inr (.inl (Oz.g15 hq)))
 obtain⟨mm,F,hl,hr⟩:=t.frm
 refine t.enter (f' := dy f scope C oL x) hs k hL rfl (fun q hq=>(ot hq).2) ?_ ?_ hC ?_ ⟨m,hn,?_,?_⟩
 ·rw [Oz.g17]
  refine⟨?_,?_,fun a ha b hb e=>?_⟩
  ·have h1:=ir (cells:=f.env.cells) cf.nd
   show((dr f.env.cells scope.names).map (·.2)).Nodup
   have h2:∀ q∈dr f.env.cells scope.names,q∈f.cells:=fun q hq=>(kt ok.toFmOk cf hq).1
   revert h1 h2
   generalize dr f.env.cells scope.names=L
   intro h1 h2
   induction L with
   | nil=>exact List.nodup_nil
   | cons q r ih =>
    rw [List.map_cons,Oz.g20] at h1 ⊢
    refine⟨fun hm=>?_,ih h1.2 fun q' hq'=>h2 q' (.tail _ hq')⟩
    obtain⟨q',hq',e⟩:=Oz.g8.mp hm
    have:q'.1=q.1:=t.cellInj (c:=q.2) (by rw [← e]; exact h2 q' (.tail _ hq')) (h2 q (.head _))
    exact h1.1 (Oz.g8.mpr ⟨q',hq',this⟩)
  ·rw [Oz.g17]
   refine⟨gj ((List.Sublist.map _ (List.filter_sublist)).nodup cnd),by simp,fun a ha b hb e=>?_⟩
   refine Oz.z fun ζ η=>?_
   obtain⟨p,hp,rfl⟩:=Oz.g8.mp ha
   obtain⟨⟨q,hq,e1,_⟩,_⟩:=ot hp
   refine η ?_
   have:=clt q hq
   rw [Oz.g9.mp hb] at e
   have h3:q.2=C:=e1.trans e
   rw [h3] at this
   exact absurd this (Nat.not_lt.mpr hC)
  ·obtain⟨q,hq,rfl⟩:=Oz.g8.mp ha
   have hqf:=(kt ok.toFmOk cf hq).1
   rcases Oz.g1.mp hb with hb | hb
   ·refine Oz.z fun ζ1 η1=>?_
    obtain⟨p,hp,rfl⟩:=Oz.g8.mp hb
    obtain⟨⟨q',hq',e1,e2⟩,_⟩:=ot hp
    refine η1 ?_
    have:q'.1=q.1:=t.cellInj (c:=q.2) (by rw [e,← e1]; exact hq') hqf
    rw [this] at e2
    have:=ds (ir (cells:=f.env.cells) cf.nd) hq
    rw [this] at e2; cases e2
   ·have:=clt q hqf
    rw [Oz.g9.mp hb] at e
    have h3:q.2=C:=e
    rw [h3] at this
    exact absurd this (Nat.not_lt.mpr hC)
 ·intro c hc
  rcases Oz.g1.mp hc with hc | hc
  ·obtain⟨q,hq,rfl⟩:=Oz.g8.mp hc
   exact .inl (Oz.g15 (kt ok.toFmOk cf hq).1)
  ·refine Oz.z fun ζ2 η2=>?_
   obtain⟨p,hp,rfl⟩:=Oz.g8.mp hc
   obtain⟨⟨q',hq',e1,e2⟩,_⟩:=ot hp
   refine η2 ?_
   rw [← e1]
   exact .inl (Oz.g15 hq')
 ·intro q hq
  obtain⟨v,hv⟩:=t.cel q (kt ok.toFmOk cf hq).1
  exact⟨v,hv.keeps k⟩
 ·show(l++[none]).length=(c7 f.sc x scope.names).slots.length
  simp [c7,Fm.sc,hl]
 ·intro j y v hj hv
  rcases mi hj with ⟨a1,b1⟩ | ⟨a1,rfl⟩
  ·have hjl:j<l.length:=by rw [hl]; exact(Oz.g4.mp a1).1
   rw [Oz.g23 hjl] at hv
   refine Oz.z fun ζ3 η3=>?_
   obtain⟨v',h1,h2⟩:=hr j y v a1 hv
   have hfree:=mq ok.toFmOk cf b1
   obtain⟨c,e1,e2⟩:=mo ok.toFmOk cf hfree
   refine η3 ?_
   have hkc:=cf.free _ hfree rfl
   rcases h2 with ⟨h3,_⟩ | ⟨h3,c',h4,h5⟩
   ·rw [show f.env.kindOf y=f.sc.names.lookup y from rfl,hkc] at h3; cases h3
   ·rw [e1] at h4; cases h4
    exact⟨v',h1,.inr ⟨by rw [lh ok.toFmOk,b1]; decide,c,e2,h5.keeps k⟩⟩
  ·subst a1
   rw [← hl] at hv
   simp at hv
theorem At.uncomp {ρ' : List Addr}{lv:Option AV}{h' : HP}{s' : Shared}(t:At Γ f hid ρ l h s) (ok:FmK n f) (cf:CompFacts f.sc x scope) (hL:s.heap.get? f.env.locals=some oL)
  (y:At Γ (dy f scope C oL x) (ky f scope s.heap++hid) ρ' (l++[lv]) h' s') (p:ρ<+:ρ'):Oz.E2 fun oC m=>(∀ hp:Heap,hp.get? C=some oC→hp.Ns C m)∧At Γ f ((C,oC)::hid) ρ' l h' s' := by
 have z:At Γ f hid ρ' l h' s' := by
  refine t.leave y p hL rfl fun q hq=>?_
  obtain⟨_,_,hl,_⟩:=t.frm
  cases e:(dr f.env.cells scope.names).lookup q.1 with
  | none =>
   obtain⟨v,o,e1,e2⟩:=t.cel q hq
   exact .inl ⟨o,ch (Oz.g15 (Oz.g25.mpr ⟨hq,by simp [e]⟩)) e1,e1⟩
  | some c =>
   have hm:=bk e
   have hq2:c=q.2:=by
    have h1:=(kt ok.toFmOk cf hm).1
    exact Cz ok.toFmOk hq h1
   subst hq2
   refine .inr ⟨hm,fun k hk=>?_⟩
   have hfree:=(me hm).1
   have hrel:(fo f.sc scope.names).lookup q.1=some .cell:=by
    rw [mv,ds cf.nd hfree,Option.map_some]
    simp [cf.free _ hfree rfl]
   refine⟨B1 hk hrel,?_,?_,e⟩
   ·rw [Oz.g23 (by rw [hl]; exact(Oz.g4.mp hk).1)]
   ·rw [lh ok.toFmOk,hrel]; decide
 refine Oz.z fun ζ η=>?_
 obtain⟨m,F,_⟩:=y.frm
 obtain⟨oC,es,ep,e1,e2,e3,e4⟩:=F.ns
 refine η ?_
 have nd:=y.nodup
 have hCin:C∈(dy f scope C oL x).adr (ky f scope s.heap++hid) ρ' := by unfold Fm.adr; simp [dy,compEnvC]
 refine⟨oC,m,fun hp e=>⟨oC,es,ep,e,e2,e3,e4⟩,z.rehid [] z.sh (fun ζ ζ ζ e=>e) (fun ζ h=>by cases h) (fun q hq=>?_) ?_ fun q hq=>?_⟩
 ·rcases Oz.g6.mp hq with rfl | hq
  ·exact e1
  ·exact z.hidden q hq
 ·rw [List.map_cons,Oz.g20]
  refine⟨fun hm=>?_,(cp.mp z.nodup).1⟩
  obtain⟨q,hq,e⟩:=Oz.g8.mp hm
  have:=(cp.mp nd).2.2 q (Oz.g24 _ hq)
  refine this ?_
  rw [e]
  unfold Fm.adr; simp [dy,compEnvC]
 ·rcases Oz.g6.mp hq with rfl | hq
  ·refine⟨fun hm=>?_,y.fresh _ hCin⟩
   have nd' := nd
   rw [Fm.adr_eq] at nd'
   have:=(Oz.g17.mp nd').2.2
   refine this C ?_ C (.head _) rfl
   unfold Fm.adr at hm
   unfold Fm.adr'
   simp only [Oz.g1,List.map_nil,Oz.g0,false_or] at hm
   simp only [Oz.g1,List.map_append]
   rcases hm with hm | hm | hm | hm
   ·exact .inl hm
   ·obtain⟨q,hq,e⟩:=Oz.g8.mp hm
    cases e5:(dr f.env.cells scope.names).lookup q.1 with
    | none =>
     obtain⟨v,o,e1,e2⟩:=t.cel q hq
     exact .inr (.inr (.inl (.inl (Oz.g8.mpr ⟨(q.2,o),ch (Oz.g15 (Oz.g25.mpr ⟨hq,by simp [e5]⟩)) e1,e⟩))))
    | some c =>
     have hm:=bk e5
     have:c=q.2:=Cz ok.toFmOk hq (kt ok.toFmOk cf hm).1
     exact .inr (.inl (Oz.g8.mpr ⟨_,hm,this.trans e⟩))
   ·exact .inr (.inr (.inr (by show C∈((f.env.locals,oL)::f.fr0).map (·.1); exact .tail _ hm)))
   ·rw [Oz.g9.mp hm]
    exact .inr (.inr (.inr (by show f.env.locals∈((f.env.locals,oL)::f.fr0).map (·.1); exact .head _)))
  ·exact z.hidOff hq
end
end Sk
namespace Sk
open PySem PySem.Calls PySem.W PyProof.Rows PySem.Spec
theorem aw.noexc {α:Type}{r:R α}{ok:α→HP→Prop}{ex:Nat→HP→Prop}(p:aw r.noexc ok ex):aw r ok (fun ζ ζ=>False):=by
 cases r with
 | ok a h=>exact p
 | exc c h=>exact p
 | err=>exact p
theorem aw.noE {Rz:Rise}{f:Fm}{hid:List (Addr×Obj)}{ρ:List Addr}{l:LOC}{E:Value→Shared→Prop}{α:Type}{r:R α}{ok:α→HP→Prop}(p:aw r ok (fun ζ ζ=>False)):aw r ok (EXQ Rz f hid ρ l E):=p.mono (fun ζ ζ x=>x) fun ζ ζ x=>x.elim
section
variable {Γ:Cx}{Rz:Rise}{cl:CallO}{n:Nat}{f:Fm}{hid:List (Addr×Obj)}{ρ ρ' : List Addr}{l:LOC}{h:HP}{s:Shared}{E:Value→Shared→Prop}
theorem Ed {cond:CE}{ifs:List Expr}{Q:Bool→Shared→Prop}{pin:Option (Addr×Obj)}(cx:CxOk Γ) (cf:CxFn Γ) (hT:ic Γ Rz cl n cond) (hk:pin=none∨Hx cond=true) (ok:FmK n f) (hm:Di Γ.tx f.sc cond ifs=true) (t:At Γ f hid ρ l h s) (pn:Pn pin ρ s)
  (p:aw (ev Γ.G cl cond l h) (fun v h'=>∃ b,Sk.truthy v=some b∧∀ ρ' s',ρ<+:ρ'→At Γ f hid ρ' l h' s'→Pn pin ρ' s'→Q b s') (EXQ Rz f hid ρ l E)) :
  wpAny (model Γ.prog Γ.w) f.A (forIn ifs true fun c r=>if r=true then do let ok ← isTrue c f.env (eval c f.env); pure (ForInStep.yield ok) else pure (ForInStep.yield r)) Q E s:=by
 obtain⟨o,h1,h2⟩:=any_some hm
 cases ifs with
 | nil =>
  cases h1
  cases cond with
  | bool b =>
   have hb:b=true:=h2
   subst hb
   obtain⟨b,e,q⟩:=p
   cases e
   rw [List.forIn_nil]
   exact wpAny_pure (q _ _ (Oz.g7 _) t pn)
  | _=>exact ba h2
 | cons c r =>
  cases r with
  | nil =>
   cases h1
   rw [List.forIn_cons]
   refine wpAny_bind ?_
   rw [if_pos rfl]
   have key:wpAny (model Γ.prog Γ.w) f.A (isTrue c f.env (eval c f.env)) Q E s:=by
    rcases hk with rfl | hk
    ·exact hT f c ok h2 hid ρ l h s Q E t (p.mono (fun v h' ⟨b,e,q⟩=>⟨b,e,fun ρ' s' a c=>q ρ' s' a c Pn.none⟩) fun ζ ζ x=>x)
    ·exact ba hk
   refine wpAny_bind (wpAny_mono key (fun b s' q=>wpAny_pure ?_) fun ζ ζ x=>x)
   show wpAny _ _ (forIn [] b _) Q E s'
   rw [List.forIn_nil]
   exact wpAny_pure q
  | cons _ _=>exact br h1
theorem G5 {elt:CE}{el:Expr}{pin:Option (Addr×Obj)}{Q:Value→Shared→Prop}(hE:bg Γ Rz cl n elt) (hk:pin=none∨Hw elt=true) (ok:FmK n f) (hm:mtE Γ.tx f.sc elt el=true) (t:At Γ f hid ρ l h s) (pn:Pn pin ρ s)
  (p:aw (ev Γ.G cl elt l h) (fun v h'=>∀ v' ρ' s',ρ<+:ρ'→At Γ f hid ρ' l h' s'→VR ρ' v v'→Pn pin ρ' s'→Q v' s') (EXQ Rz f hid ρ l E)):wpAny (model Γ.prog Γ.w) f.A (eval el f.env) Q E s:=by
 rcases hk with rfl | hk
 ·exact hE f el ok hm hid ρ l h s Q E t (p.mono (fun v h' q v' ρ' s' a b c=>q v' ρ' s' a b c Pn.none) fun ζ ζ x=>x)
 ·exact ba hk
set_option tactic.hygienic true in
theorem ro {elt cond:CE}{ik:IK}{es:CEs}(cx:CxOk Γ) (cf:CxFn Γ) (he:ji Γ Rz cl n es) (hv:∀ c,es=.cons c .nil→bg Γ Rz cl n c) (hE:bg Γ Rz cl n elt) (hT:ic Γ Rz cl n cond) (ok:FmK n f) (hcm:f.sc.calm=true) (hko:kOk ik elt cond=true)
  {el iter:Expr}{ifs:List Expr}{scope:Scope}{x:Str}{px pos pos' : Pos}{use:Option (Value→Sem Unit)}(m0:sw f.sc x scope=true) (m1:nw Γ.tx f.sc ik es iter=true)
  (m2:mtE Γ.tx (c7 f.sc x scope.names) elt el=true) (m3:Di Γ.tx (c7 f.sc x scope.names) cond ifs=true) (t:At Γ f hid ρ l h s){Q:Value→Shared→Prop}
  (p:aw (ev Γ.G cl (.comp elt ik es cond) l h) (fun v h'=>∀ D C oC m ρ' s',ρ<+:ρ'→At Γ f ((C,oC)::hid) ρ' l h' s'→VR ρ' v (.ref D)→(∀ hp:Heap,hp.get? C=some oC→hp.Ns C m) →
   compPost (model Γ.prog Γ.w) f.A E use Q (.ref D) C (.ok .next) s') (EXQ Rz f hid ρ l E)) :
  wpAny (model Γ.prog Γ.w) f.A (comprehension (.ListComp el [⟨.Name x px,iter,ifs,0⟩] scope pos) scope f.env pos' (newList []) false (eval iter f.env) use) Q E s:=by
 obtain⟨QK,hQK,p⟩:∃ QK:AV→HP→Prop,(∀ v h',QK v h'→∀ D C oC m ρ' s',ρ<+:ρ'→At Γ f ((C,oC)::hid) ρ' l h' s'→VR ρ' v (.ref D)→(∀ hp:Heap,hp.get? C=some oC→hp.Ns C m)→compPost (model Γ.prog Γ.w) f.A E use Q (.ref D) C (.ok .next) s')∧aw (ev Γ.G cl (.comp elt ik es cond) l h) QK (EXQ Rz f hid ρ l E):=⟨_,fun ζ ζ x=>x,p⟩
 have fc:=Bl m0
 refine wpAny_comprehension_free (cl:=dr f.env.cells scope.names) rfl (rb m1 f.env) (Dy fun q hq e=>(sj ok.toFmOk fc q hq e).imp fun ζ h=>h.2) fc.kind fc.loc ?_
 refine zy cx cf he hv ok m1 t (p.thenE fun vs h1 p1=>?_)
 unfold ui
 obtain⟨items,g,er⟩:Oz.E2 fun items g=>bp ik vs h1=some (items,g):=by
  cases er:bp ik vs h1 with
  | none=>rw [er] at p1; exact p1.elim
  | some r=>exact⟨r.1,r.2,rfl⟩
 rw [er] at p1 ⊢
 dsimp only at p1
 by_cases hz:cb items.length=true
 case neg=>rw [if_neg hz] at p1; exact p1.elim
 rw [if_pos hz] at p1
 have hz:=of_decide_eq_true hz
 intro it H hx ρ2 s2 pin hpk pre2 I hpn h0 hg t2
 have hst:pin=none∨(Hw elt=true∧Hx cond=true):=by
  cases q:p0 ik with
  | false=>exact .inl (hpk q)
  | true =>
   unfold kOk at hko
   rw [q] at hko
   exact .inr (Oz.g14.mp hko)
 refine wpAny_newObj_type (wpAny_newFunctionEnv fc.nocell (by intro y hy; simp at hy) (fun h₁ hns₁ hsb₁=>?_) fc.kind)
 dsimp only at hns₁ hsb₁ ⊢
 generalize hH2:s2.heap.push { cls:=.type "list",dict:=none,data:=.seq ([]:List Value).toArray }=H2 at hns₁ hsb₁ ⊢
 have hC:H2.objs.size=s2.heap.objs.size+1:=by rw [← hH2,Heap.size_push]
 have k2:∀ b o,s2.heap.get? b=some o→H2.get? b=some o:=fun b o e=>by rw [← hH2]; exact Heap.get?_push_of_some _ e
 have hD:H2.get? s2.heap.objs.size=some { cls:=.type "list",dict:=none,data:=.seq ([]:List Value).toArray } := by rw [← hH2]; exact Heap.get?_push_size _ rfl
 have t3:At Γ f ((s2.heap.objs.size,listOf ([]:List Value).toArray 0)::(hx++hid)) ρ2 l h1 { s2 with heap:=H2 } := t2.hidNew (by rw [t2.sh]) k2 (Oz.g3 _) hD
 have k4:∀ b o,H2.get? b=some o→h₁.get? b=some o:=fun b o e=>hsb₁.extBut b o (Nat.ne_of_lt (Heap.lt_size e)) (Heap.get?_push_of_some _ e)
 obtain⟨oL,hL⟩:=t3.locObj
 have t4:=t3.comp (s' := { s2 with heap:=h₁,toks:=s2.toks+([]:List (Str×Value)).length }) (C:=H2.objs.size) (x:=x) ok fc (by rw [t2.sh]) k4 hL (Oz.g3 _) hns₁
 have t3u:At Γ f hid ρ2 l h1 { s2 with heap:=H2 } := At.unhide (hx:=(s2.heap.objs.size,listOf ([]:List Value).toArray 0)::hx) t3
 generalize hD' : s2.heap.objs.size=D at t3 t4 hD ⊢
 generalize hC' : H2.objs.size=C at t4 hns₁ hsb₁ ⊢
 have okc:=Ih (C:=C) (oL:=oL) ok fc (t3.locNf hL)
 have scc:(dy f scope C oL x).sc=c7 f.sc x scope.names:=Ky ok.toFmOk
 have slx:(dy f scope C oL x).slots[l.length]?=some (some x):=by
  obtain⟨_,_,hl,_⟩:=t3u.frm
  show(c7 f.sc x scope.names).slots[l.length]?=_
  unfold c7
  rw [hl,Oz.g29 (by simp [Fm.sc])]
  simp [Fm.sc]
 have t5:At Γ (dy f scope C oL x) (hx++((D,listOf ([]:List Value).toArray 0)::(ky f scope H2++hid))) ρ2 (l++[none]) h1 { s2 with heap:=h₁,toks:=s2.toks+([]:List (Str×Value)).length } := by
  refine t4.hperm ?_
  exact List.perm_middle.trans (((List.perm_append_comm_assoc _ _ _).cons _).trans List.perm_middle.symm)
 have loop:∀ s₃:Shared,s₃={ s2 with heap:=h₁,toks:=s2.toks+([]:List (Str×Value)).length } →
   codeAny (model Γ.prog Γ.w) f.A (.compLoop (.ListComp el [⟨.Name x px,iter,ifs,0⟩] scope pos) 0 (.ref it) (.ref D) (dy f scope C oL x).env)
    (compPost (model Γ.prog Γ.w) f.A E use Q (.ref D) C) s₃:=by
  rintro s₃ rfl
  refine codeAny_compLoop_tests (fun k s'=>Oz.E8 fun hx' j xs ys nn ρ' lv h'=>At Γ (dy f scope C oL x) (hx'++((D,listOf (ys:List Value).toArray nn)::(ky f scope H2++hid))) ρ' (l++[lv]) h' s'∧Pn pin ρ' s'∧H j hx' ρ'∧VRs ρ' xs ys∧ρ2<+:ρ' ∧
   j≤items.length∧k=items.length+1 - j∧xs.length≤j ∧
   aw (da g (fun v h'=>ev Γ.G cl cond (l++[some v]) h') (fun v h'=>ev Γ.G cl elt (l++[some v]) h') (items.drop j) h')
    (fun rest h''=>aw (R.ok (AV.ref h''.length) (h''++[AO.list (xs++rest)]):R AV) QK (EXQ Rz f hid ρ l E)) (EXQ Rz f hid ρ l E)) ?_ (items.length+1)
   ⟨hx,0,[],[],0,ρ2,none,h1,t5,hpn.keep (Oz.g7 _) (fun b ζ o e=>k4 b o (k2 b o e)),h0,.nil,Oz.g7 _,Nat.zero_le _,rfl,Oz.g3 _,by simpa using bq.mp p1⟩
  rintro k s' ⟨hx',j,xs,ys,nn,ρ',lv,h',tt,hpj,hj,hxy,pre,hjl,rfl,hxl,pp⟩
  by_cases hlt:j<items.length
  ·rw [List.drop_eq_getElem_cons hlt] at pp
   rw [Dx] at pp
   obtain⟨hgk,pp⟩:=Bt pp
   refine I.item (dy f scope C oL x) _ ρ' _ h' s' j hx' items[j] _ _ (fg hcm) tt hpj hj hgk (Oz.g10 hlt) fun v' hx2 s2' tt2 hp2 hj2 vr2=>?_
   refine wpAny_assign_Name (tt2.store okc.toFmOk slx vr2 fun s3' tt3 kp3=>?_)
   have eset:(l++[lv]).set l.length (some items[j])=l++[some items[j]]:=by simp
   rw [eset] at tt3
   refine Ed (pin:=pin) cx cf hT (hst.imp_right And.right) okc (by rw [scc]; exact m3) tt3 (hp2.keep (Oz.g7 _) fun b hb o e=>(kp3 b hb).trans e) (aw.noE ((bq.mp pp).noexc.mono (fun c h2 pc=>?_) fun ζ ζ x=>x))
   cases hc:truthy c with
   | none=>rw [hc] at pc; exact pc.elim
   | some b =>
    rw [hc] at pc
    refine⟨b,rfl,fun ρ3 s4 pre3 t4' hp4=>?_⟩
    cases b with
    | false =>
     rw [if_neg (by decide)]
     exact⟨items.length+1 - (j+1),Oz.o579 hlt,hx2,j+1,xs,ys,nn,ρ3,_,h2,t4',hp4,I.mono _ _ _ _ pre3 hj2,hxy.mono pre3,pre.trans pre3,hlt,rfl,Oz.o439 hxl,pc⟩
    | true =>
     rw [if_pos rfl]
     refine G5 (pin:=pin) hE (hst.imp_right And.left) okc (by rw [scc]; exact m2) t4' hp4 (aw.noE ((bq.mp pc).noexc.mono (fun y h3 py y' ρ4 s5 pre4 t5' vr4 hp5=>?_) fun ζ ζ x=>x))
     have hget:s5.heap.get? D=some (listOf ys.toArray nn):=t5'.hidden (D,listOf ys.toArray nn) (Oz.g24 _ (.head _))
     refine append_at hget (fun h6 hs6 ho6=>?_) (by simp; have:=hxy.length; exact Oz.g2 (Oz.o580 hz hxl hlt this) (show 100000≤sizeLine by decide))
     have t6:At Γ (dy f scope C oL x) (hx2++((D,listOf (ys++[y']).toArray (nn+1))::(ky f scope H2++hid))) ρ4 (l++[some items[j]]) h3 { s5 with heap:=h6 } := by
      have pm:∀ o:Obj,(hx2++((D,o)::(ky f scope H2++hid))).Perm ((D,o)::(hx2++(ky f scope H2++hid))):=fun o=>List.perm_middle
      refine At.hperm (hid:=(D,listOf (ys++[y']).toArray (nn+1))::(hx2++(ky f scope H2++hid))) ?_ (pm _).symm
      refine At.hidPut (t5'.hperm (pm _)) (by rw [t5'.sh]) (fun b o hb e=>(hs6.2 b hb).trans e) ?_
      rw [ho6]; simp
     have pq:=bq.mp py
     refine⟨items.length+1 - (j+1),Oz.o579 hlt,hx2,j+1,xs++[y],ys++[y'],nn+1,ρ4,_,h3,t6,hp5.keep (Oz.g7 _) (fun b hb o e=>(hs6.2 b (fun eb=>(t5'.hidOff (p:=(D,listOf ys.toArray nn)) (Oz.g24 _ (.head _))).1 (eb ▸ Oz.g18 _ hb))).trans e),I.mono _ _ _ _ pre4 (I.mono _ _ _ _ pre3 hj2),((hxy.mono pre3).mono pre4).append (.cons vr4 .nil),(pre.trans pre3).trans pre4,hlt,rfl,by simp; exact Oz.o16 hxl,?_⟩
     refine pq.mono (fun rest h'' q=>?_) fun ζ ζ q=>q
     have:xs++[y]++rest=xs++(y::rest):=by simp
     rw [this]; exact q
  ·have hje:items.drop j=[]:=List.drop_eq_nil_of_le (Oz.o477 hlt)
   rw [hje] at pp
   rw [Gm] at pp
   obtain⟨hgk,pp⟩:=Bt pp
   refine I.done (dy f scope C oL x) _ ρ' _ h' s' j hx' _ _ (fg hcm) tt hpj hj hgk (by show items.length≤j; exact Oz.o477 hlt) fun s2' tt2=>?_
   have prD:ρ'<+:ρ'++[D]:=Oz.g28 _ _
   have tt3:=tt2.unveil (ao:=.list xs) ⟨ys,nn,rfl,hxy.mono prD,Oz.o581 hz hjl hxl⟩
   obtain⟨oC,mC,hns,tt4⟩:=t3u.uncomp ok fc hL tt3 (pre.trans prD)
   have pp' := hQK _ _ pp D C oC mC (ρ'++[D]) s2' ((pre2.trans pre).trans prD)
   rw [List.append_nil] at pp'
   exact pp' tt4 ⟨D,by rw [← tt2.len]; simp,rfl⟩ hns
 refine codeAny_compStart_list (loop _ rfl) (I.self (dy f scope C oL x) _ ρ2 _ h1 _ 0 hx _ _ t5 h0 (loop _ rfl))
theorem Ej {elt cond:CE}{ik:IK}{es:CEs}(cx:CxOk Γ) (cf:CxFn Γ) (he:ji Γ Rz cl n es) (hv:∀ c,es=.cons c .nil→bg Γ Rz cl n c) (hE:bg Γ Rz cl n elt) (hT:ic Γ Rz cl n cond):bg Γ Rz cl n (.comp elt ik es cond):=by
 intro f e ok hm hid ρ l h s Q E t p
 replace hm:=ud hm
 refine Oz.z fun ζ η=>?_
 obtain⟨el,x,px,iter,ifs,scope,pos,rfl,⟨hcm,hko⟩,hm⟩:=hm
 refine η ?_
 ·rw [Oz.g5,Oz.g5,Oz.g5] at hm
  obtain⟨⟨⟨m0,m1⟩,m2⟩,m3⟩:=hm
  rw [eval_ListComp]
  refine ro (use:=none) cx cf he hv hE hT ok hcm hko m0 m1 m2 m3 t (p.mono (fun v h' q=>?_) fun ζ ζ x=>x)
  intro D C oC m ρ' s' pre t' vr hns
  exact⟨m,hns _ (t'.hidden _ (.head _)),fun hp hs=>q _ _ _ pre (t'.hidDrop (by rw [t'.sh]) fun b o hb e=>(hs.2 b hb).trans e) vr⟩
theorem Ei {elt cond:CE}{ik:IK}{es:CEs}(cx:CxOk Γ) (cf:CxFn Γ) (he:ji Γ Rz cl n es) (hv:∀ c,es=.cons c .nil→bg Γ Rz cl n c) (hE:bg Γ Rz cl n elt) (hT:ic Γ Rz cl n cond)
  {e:Expr}(ok:FmK n f) (hm:mtE Γ.tx f.sc (.comp elt ik es cond) e=true){k:Nat}{y:Str}{py:Pos}(hk:f.slots[k]?=some (some y)) (t:At Γ f hid ρ l h s){Q:Unit→Shared→Prop}
  (p:aw (ev Γ.G cl (.comp elt ik es cond) l h) (fun v h'=>∀ ρ' s',ρ<+:ρ'→At Γ f hid ρ' (l.set k (some v)) h' s'→Q () s') (EXQ Rz f hid ρ l E)) :
  wpAny (model Γ.prog Γ.w) f.A (evalThenUse e f.env (assign (.Name y py) f.env)) Q E s:=by
 replace hm:=ud hm
 refine Oz.z fun ζ η=>?_
 obtain⟨el,x,px,iter,ifs,scope,pos,rfl,⟨hcm,hko⟩,hm⟩:=hm
 refine η ?_
 ·rw [Oz.g5,Oz.g5,Oz.g5] at hm
  obtain⟨⟨⟨m0,m1⟩,m2⟩,m3⟩:=hm
  show wpAny _ _ (comprehension (.ListComp el [⟨.Name x px,iter,ifs,0⟩] scope pos) scope f.env _ (newList []) false (eval iter f.env) (some (assign (.Name y py) f.env)) >>= fun ζ=>pure ()) Q E s
  refine wpAny_bind (ro (use:=some (assign (.Name y py) f.env)) cx cf he hv hE hT ok hcm hko m0 m1 m2 m3 t (p.mono (fun v h' q=>?_) fun ζ ζ x=>x))
  intro D C oC m ρ' s' pre t' vr hns
  refine wpAny_assign_Name (t'.store ok.toFmOk hk vr fun s'' t'' ζ=>?_)
  exact⟨m,hns _ (t''.hidden _ (.head _)),fun hp hs=>wpAny_pure (q _ _ pre (t''.hidDrop (by rw [t''.sh]) fun b o hb e=>(hs.2 b hb).trans e))⟩
end
end Sk
namespace Sk
open PySem PySem.Calls PySem.W PyProof.Rows PySem.Spec
section
variable {Γ:Cx}{Rz:Rise}{cl:CallO}{n:Nat}
mutual
theorem cr (cx:CxOk Γ) (cf:CxFn Γ) (ix:xu Γ) (hc:tu Γ Rz cl n):∀ c:CE,bg Γ Rz cl n c∧ic Γ Rz cl n c
 | .none=>⟨zx,cc zx fun sc e env whole hm=>by obtain⟨_,_,rfl⟩:=wz hm; rfl⟩
 | .bool b=>⟨z4,cc z4 fun sc e env whole hm=>by obtain⟨_,_,_,rfl,_⟩:=xd hm; rfl⟩
 | .int i=>⟨B8,cc B8 fun sc e env whole hm=>by obtain⟨_,_,_,rfl,_⟩:=As hm; rfl⟩
 | .pow a m=>⟨B6,cc B6 fun sc e env whole hm=>by obtain⟨_,_,_,_,_,_,_,rfl,_⟩:=An hm; rfl⟩
 | .loc k=>⟨B7,cc B7 fun sc e env whole hm=>by obtain⟨_,_,rfl,_⟩:=Ar hm; rfl⟩
 | .bin op a b=>have s:=G8 (op:=op) (cr cx cf ix hc a).1 (cr cx cf ix hc b).1; ⟨s,cc s fun sc e env whole hm=>by obtain⟨_,_,_,_,rfl,_⟩:=Av hm; rfl⟩
 | .neg a=>have s:=Jm (cr cx cf ix hc a).1; ⟨s,cc s fun sc e env whole hm=>by obtain⟨_,_,rfl,_⟩:=Aq hm; rfl⟩
 | .not a=>Jl (cr cx cf ix hc a).2 (cr cx cf ix hc a).1
 | .and a b=>Jt (cr cx cf ix hc a) (cr cx cf ix hc b)
 | .or a b=>Lm (cr cx cf ix hc a) (cr cx cf ix hc b)
 | .cmp op a b=>G6 (cr cx cf ix hc a).1 (cr cx cf ix hc b).1
 | .isC neg a c=>Jo (cr cx cf ix hc a).1
 | .isin neg a b=>Eh cx cf (cr cx cf ix hc a).1 (cr cx cf ix hc b).1
 | .chain a o₁ b o₂ c=>Ek (cr cx cf ix hc a).1 (cr cx cf ix hc b).1 (cr cx cf ix hc c).1
 | .attr a m=>have s:=En (k:=m) cx (cr cx cf ix hc a).1; ⟨s,cc s fun sc e env whole hm=>by obtain⟨_,_,_,rfl,_⟩:=xf hm; rfl⟩
 | .item a i=>have s:=Eg (cr cx cf ix hc a).1 (cr cx cf ix hc i).1; ⟨s,cc s fun sc e env whole hm=>by obtain⟨_,_,_,rfl,_⟩:=w7 hm; rfl⟩
 | .slice a lo hi st=>have s:=C9 (st:=st) (cr cx cf ix hc a).1 (cr cx cf ix hc lo).1 (cr cx cf ix hc hi).1; ⟨s,cc s fun sc e env whole hm=>by obtain⟨_,_,_,_,_,_,rfl,_⟩:=uw hm; rfl⟩
 | .list es=>have s:=Ef (simEs cx cf ix hc es).1; ⟨s,cc s fun sc e env whole hm=>by obtain⟨_,_,rfl,_⟩:=w6 hm; rfl⟩
 | .tup es=>have s:=G1 (simEs cx cf ix hc es).1; ⟨s,cc s fun sc e env whole hm=>by obtain⟨_,_,_,rfl,_⟩:=Am hm; rfl⟩
 | .dict0=>⟨yc cx,cc (yc cx) fun sc e env whole hm=>by obtain⟨_,rfl⟩:=uy hm; rfl⟩
 | .call fi es=>have s:=El (fi:=fi) cx cf hc (simEs cx cf ix hc es).1; ⟨s,cc s fun sc e env whole hm=>by obtain⟨_,_,_,_,rfl,_⟩:=w8 hm; rfl⟩
 | .meth a m es=>have s:=Ee (m:=m) cx cf hc (cr cx cf ix hc a).1 (simEs cx cf ix hc es).1; ⟨s,cc s fun sc e env whole hm=>by obtain⟨_,_,_,_,_,rfl,_⟩:=w5 hm; rfl⟩
 | .new c es=>have s:=G2 (c:=c) cx cf hc (simEs cx cf ix hc es).1; ⟨s,cc s fun sc e env whole hm=>by obtain⟨_,_,_,_,rfl,_⟩:=Ap hm; rfl⟩
 | .bm m a es=>have s:=Jq (m:=m) (cr cx cf ix hc a).1 (simEs cx cf ix hc es).1; ⟨s,cc s fun sc e env whole hm=>by obtain⟨_,_,_,_,_,rfl,_⟩:=Dg hm; rfl⟩
 | .bf b es=>have s:=Js (b:=b) cx cf (simEs cx cf ix hc es).1; ⟨s,cc s fun sc e env whole hm=>by obtain⟨_,_,_,_,rfl,_⟩:=Dh hm; rfl⟩
 | .isinst a ty=>have s:=B0 (ty:=ty) cx cf ix (cr cx cf ix hc a).1; ⟨s,cc s fun sc e env whole hm=>by obtain⟨_,_,_,_,_,_,rfl,_⟩:=ru hm; rfl⟩
 | .comp elt ik es cond=>have s:=Ej (ik:=ik) cx cf (simEs cx cf ix hc es).1 (simEs cx cf ix hc es).2 (cr cx cf ix hc elt).1 (cr cx cf ix hc cond).2; ⟨s,cc s fun sc e env whole hm=>by obtain⟨_,_,_,_,_,_,_,rfl,_⟩:=ud hm; rfl⟩
theorem simEs (cx:CxOk Γ) (cf:CxFn Γ) (ix:xu Γ) (hc:tu Γ Rz cl n):∀ cs:CEs,ji Γ Rz cl n cs∧∀ c,cs=.cons c .nil→bg Γ Rz cl n c
 | .nil=>⟨Hd,fun c e=>CEs.noConfusion e⟩
 | .cons c cs=>⟨Eu (cr cx cf ix hc c).1 (simEs cx cf ix hc cs).1,fun d e=>CEs.noConfusion e fun e1 ζ=>e1 ▸ (cr cx cf ix hc c).1⟩
end
end
end Sk
namespace Sk
open PySem PySem.Calls PySem.W PyProof.Rows PySem.Spec
noncomputable def wx:CE→Bool
 | .comp ..=>false
 | _=>true
noncomputable def asS (e:Stmt):Option (List Expr×Expr×Pos):=if h:e.ctorIdx=5 then some (Stmt.Assign.elim e h fun t v p=>(t,v,p)) else Option.none
noncomputable def exS (e:Stmt):Option (Expr×Pos):=if h:e.ctorIdx=24 then some (Stmt.Expr.elim e h fun v p=>(v,p)) else Option.none
noncomputable def ifS (e:Stmt):Option (Expr×List Stmt×List Stmt×Pos):=if h:e.ctorIdx=12 then some (Stmt.If.elim e h fun v b o p=>(v,b,o,p)) else Option.none
noncomputable def whS (e:Stmt):Option (Expr×List Stmt×List Stmt×Pos):=if h:e.ctorIdx=11 then some (Stmt.While.elim e h fun v b o p=>(v,b,o,p)) else Option.none
noncomputable def foS (e:Stmt):Option (Expr×Expr×List Stmt×List Stmt×Pos):=if h:e.ctorIdx=9 then some (Stmt.For.elim e h fun t i b o p=>(t,i,b,o,p)) else Option.none
noncomputable def reS (e:Stmt):Option (Option Expr×Pos):=if h:e.ctorIdx=3 then some (Stmt.Return.elim e h fun v p=>(v,p)) else Option.none
noncomputable def raS (e:Stmt):Option (Option Expr×Option Expr×Pos):=if h:e.ctorIdx=16 then some (Stmt.Raise.elim e h fun v c p=>(v,c,p)) else Option.none
noncomputable def trS (e:Stmt):Option (List Stmt×List ExceptHandler×List Stmt×List Stmt×Pos):=if h:e.ctorIdx=17 then some (Stmt.Try.elim e h fun b h o g p=>(b,h,o,g,p)) else Option.none
noncomputable def paS (e:Stmt):Option Pos:=if h:e.ctorIdx=25 then some (Stmt.Pass.elim e h fun p=>p) else Option.none
noncomputable def No:Const→Option Str | .str v=>some v | _=>Option.none
noncomputable def hnS:ExceptHandler→Option (Str×Pos×Option Str×List Stmt×Pos) | .ExceptHandler t n b p=>t.bind fun t=>(nmE t).map fun x=>(x.1,x.2,n,b,p)
theorem Br {e:Stmt}{t:List Expr}{v:Expr}{p:Pos}(h:asS e=some (t,v,p)):e=.Assign t v p:=by
 refine Oz.z fun ζ η=>?_
 obtain⟨q,h⟩:=dk h
 obtain⟨w0,w1,w2,rfl⟩:=Stmt.Assign.elim (motive_2:=fun e=>Oz.E3 fun w0 w1 w2=>e=.Assign w0 w1 w2) e q fun w0 w1 w2=>⟨w0,w1,w2,rfl⟩
 refine η ?_
 cases h; rfl
theorem Ni {e:Stmt}{v:Expr}{p:Pos}(h:exS e=some (v,p)):e=.Expr v p:=by
 refine Oz.z fun ζ η=>?_
 obtain⟨q,h⟩:=dk h
 obtain⟨w0,w1,rfl⟩:=Stmt.Expr.elim (motive_2:=fun e=>Oz.E2 fun w0 w1=>e=.Expr w0 w1) e q fun w0 w1=>⟨w0,w1,rfl⟩
 refine η ?_
 cases h; rfl
theorem Nc {e:Stmt}{v:Expr}{b o:List Stmt}{p:Pos}(h:ifS e=some (v,b,o,p)):e=.If v b o p:=by
 refine Oz.z fun ζ η=>?_
 obtain⟨q,h⟩:=dk h
 obtain⟨w0,w1,w2,w3,rfl⟩:=Stmt.If.elim (motive_2:=fun e=>Oz.E4 fun w0 w1 w2 w3=>e=.If w0 w1 w2 w3) e q fun w0 w1 w2 w3=>⟨w0,w1,w2,w3,rfl⟩
 refine η ?_
 cases h; rfl
theorem K9 {e:Stmt}{v:Expr}{b o:List Stmt}{p:Pos}(h:whS e=some (v,b,o,p)):e=.While v b o p:=by
 refine Oz.z fun ζ η=>?_
 obtain⟨q,h⟩:=dk h
 obtain⟨w0,w1,w2,w3,rfl⟩:=Stmt.While.elim (motive_2:=fun e=>Oz.E4 fun w0 w1 w2 w3=>e=.While w0 w1 w2 w3) e q fun w0 w1 w2 w3=>⟨w0,w1,w2,w3,rfl⟩
 refine η ?_
 cases h; rfl
theorem Gd {e:Stmt}{v i:Expr}{b o:List Stmt}{p:Pos}(h:foS e=some (v,i,b,o,p)):e=.For v i b o p:=by
 refine Oz.z fun ζ η=>?_
 obtain⟨q,h⟩:=dk h
 obtain⟨w0,w1,w2,w3,w4,rfl⟩:=Stmt.For.elim (motive_2:=fun e=>Oz.E5 fun w0 w1 w2 w3 w4=>e=.For w0 w1 w2 w3 w4) e q fun w0 w1 w2 w3 w4=>⟨w0,w1,w2,w3,w4,rfl⟩
 refine η ?_
 cases h; rfl
theorem Lu {e:Stmt}{v:Option Expr}{p:Pos}(h:reS e=some (v,p)):e=.Return v p:=by
 refine Oz.z fun ζ η=>?_
 obtain⟨q,h⟩:=dk h
 obtain⟨w0,w1,rfl⟩:=Stmt.Return.elim (motive_2:=fun e=>Oz.E2 fun w0 w1=>e=.Return w0 w1) e q fun w0 w1=>⟨w0,w1,rfl⟩
 refine η ?_
 cases h; rfl
theorem Lv {e:Stmt}{v c:Option Expr}{p:Pos}(h:raS e=some (v,c,p)):e=.Raise v c p:=by
 refine Oz.z fun ζ η=>?_
 obtain⟨q,h⟩:=dk h
 obtain⟨w0,w1,w2,rfl⟩:=Stmt.Raise.elim (motive_2:=fun e=>Oz.E3 fun w0 w1 w2=>e=.Raise w0 w1 w2) e q fun w0 w1 w2=>⟨w0,w1,w2,rfl⟩
 refine η ?_
 cases h; rfl
theorem Le {e:Stmt}{b o g:List Stmt}{k:List ExceptHandler}{p:Pos}(h:trS e=some (b,k,o,g,p)):e=.Try b k o g p:=by
 refine Oz.z fun ζ η=>?_
 obtain⟨q,h⟩:=dk h
 obtain⟨w0,w1,w2,w3,w4,rfl⟩:=Stmt.Try.elim (motive_2:=fun e=>Oz.E5 fun w0 w1 w2 w3 w4=>e=.Try w0 w1 w2 w3 w4) e q fun w0 w1 w2 w3 w4=>⟨w0,w1,w2,w3,w4,rfl⟩
 refine η ?_
 cases h; rfl
theorem Me {e:Stmt}{p:Pos}(h:paS e=some p):e=.Pass p:=by
 obtain⟨q,h⟩:=dk h
 obtain⟨w0,rfl⟩:=Stmt.Pass.elim (motive_2:=fun e=>∃ w0,e=.Pass w0) e q fun w0=>⟨w0,rfl⟩
 cases h; rfl
theorem K0 {c:Const}{v:Str}(h:No c=some v):c=.str v:=by
 cases c with
 | str i=>cases h; rfl
 | _=>exact br h
section
variable (tx:Tx)
mutual
noncomputable def mtB (sc:Sc):CS→List Stmt→Bool
 | .skip,ss=>ss.isEmpty
 | .seq a b,ss=>match ss with | st::rest=>mtS sc a st&&mtB sc b rest | []=>false
 | _,_=>false
noncomputable def mtS (sc:Sc):CS→Stmt→Bool
 | .skip,st=>(paS st).isSome
 | .asg k e,st=>(asS st).any fun y=>(on1 y.1).any fun z=>(nmE z).any fun w=>sc.slots[k]? == some (some w.1)&&mtE tx sc e y.2.1
 | .asg2 _ _ _,_=>false
 | .setAttr a n e,st=>(asS st).any fun y=>(on1 y.1).any fun z=>(aT z).any fun w=>tx.attr n == some w.2.1&&mtE tx sc a w.1&&mtE tx sc e y.2.1
 | .setItem a i e,st=>(asS st).any fun y=>(on1 y.1).any fun z=>(sB z).any fun w=>mtE tx sc a w.1&&mtE tx sc i w.2.1&&mtE tx sc e y.2.1
 | .ex e,st=>(exS st).any fun y=>mtE tx sc e y.1&&wx e
 | .ite t a b,st=>(ifS st).any fun y=>mtE tx sc t y.1&&mtB sc a y.2.1&&mtB sc b y.2.2.1
 | .whil t b,st=>(whS st).any fun y=>y.2.2.1.isEmpty&&(mtE tx sc t y.1&&mtB sc b y.2.1)
 | .for1 k ik es b,st=>(foS st).any fun y=>(nmE y.1).any fun w=>(y.2.2.2.1.isEmpty&&sc.calm)&&(sc.slots[k]? == some (some w.1)&&(!p0 ik&&nw tx sc ik es y.2.1)&&mtB sc b y.2.2.1)
 | .for2 k₁ k₂ e b,st=>(foS st).any fun y=>(tuE y.1).any fun u=>(on2 u.1).any fun d=>(nmE d.1).any fun a=>(nmE d.2).any fun b'=>(caN y.2.1).any fun c=>(on1 c.2.2.1).any fun v=>(y.2.2.2.1.isEmpty&&sc.calm) &&
   (sc.slots[k₁]? == some (some a.1)&&sc.slots[k₂]? == some (some b'.1)&&c.1 == ("enumerate" : Str)&&glb sc c.1&&mtE tx sc e v&&mtB sc b y.2.2.1)
 | .ret e,st=>(reS st).any fun y=>y.1.any fun v=>mtE tx sc e v
 | .raise c m,st=>(raS st).any fun y=>y.2.1.isNone&&y.1.any fun x=>(caN x).any fun k=>(on1 k.2.2.1).any fun q=>(cst q).any fun q=>(No q.1).any fun v=>tx.exc&&sc.calm&&c != 0&&tx.clsName c == some k.1&&glb sc k.1&&v == m
 | .tr b hs,st=>(trS st).any fun y=>y.2.2.1.isEmpty&&y.2.2.2.1.isEmpty&&(tx.exc&&sc.calm&&mtB sc b y.1&&!y.2.1.isEmpty&&mtH ⟨sc.names,sc.slots,false⟩ hs y.2.1)
 | .seq _ _,_=>false
 | .dead,_=>true
noncomputable def mtH (sc:Sc):CHs→List ExceptHandler→Bool
 | .nil,hs=>hs.isEmpty
 | .cons c as_ b r,hs=>match hs with
  | h::rest=>(hnS h).any fun y=>c != 0&&tx.clsName c == some y.1&&glb sc y.1&&(as_.elim y.2.2.1.isNone fun k=>y.2.2.1.any fun x=>sc.slots[k]? == some (some x)&&sc.names.lookup x == some .local)&&!y.2.2.2.1.isEmpty&&mtB sc b y.2.2.2.1&&mtH sc r rest
  | []=>false
end
end
section
variable {tx:Tx}{sc:Sc}{st:Stmt}
theorem emp {α:Type}{l:List α}(h:l.isEmpty=true):l=[]:=List.isEmpty_iff.mp h
theorem Mi {k:Nat}{e:CE}(h:mtS tx sc (.asg k e) st=true):Oz.E4 fun y py v p=>st=.Assign [.Name y py] v p∧(sc.slots[k]? == some (some y)&&mtE tx sc e v)=true:=by
 refine Oz.z fun ζ η=>?_
 obtain⟨⟨t,v,p⟩,h1,h⟩:=any_some h
 obtain⟨z,h2,h⟩:=any_some h
 obtain⟨⟨y,py⟩,h3,h⟩:=any_some h
 refine η ?_
 exact⟨y,py,v,p,by rw [Br h1,show t=_ from nq h2,jz h3],h⟩
theorem Dk {a e:CE}{n:Nat}(h:mtS tx sc (.setAttr a n e) st=true):Oz.E5 fun o x q v p=>st=.Assign [.Attribute o x q] v p∧(tx.attr n == some x&&mtE tx sc a o&&mtE tx sc e v)=true:=by
 refine Oz.z fun ζ η=>?_
 obtain⟨⟨t,v,p⟩,h1,h⟩:=any_some h
 obtain⟨z,h2,h⟩:=any_some h
 obtain⟨⟨o,x,q⟩,h3,h⟩:=any_some h
 refine η ?_
 exact⟨o,x,q,v,p,by rw [Br h1,show t=_ from nq h2,D2 h3],h⟩
theorem Dj {a i e:CE}(h:mtS tx sc (.setItem a i e) st=true):Oz.E5 fun o x q v p=>st=.Assign [.Subscript o x q] v p∧(mtE tx sc a o&&mtE tx sc i x&&mtE tx sc e v)=true:=by
 refine Oz.z fun ζ η=>?_
 obtain⟨⟨t,v,p⟩,h1,h⟩:=any_some h
 obtain⟨z,h2,h⟩:=any_some h
 obtain⟨⟨o,x,q⟩,h3,h⟩:=any_some h
 refine η ?_
 exact⟨o,x,q,v,p,by rw [Br h1,show t=_ from nq h2,Dd h3],h⟩
theorem N5 {e:CE}(h:mtS tx sc (.ex e) st=true):Oz.E2 fun v p=>st=.Expr v p∧(mtE tx sc e v&&wx e)=true:=by
 obtain⟨⟨v,p⟩,h1,h⟩:=any_some h
 exact⟨v,p,Ni h1,h⟩
theorem Mh {t:CE}{a b:CS}(h:mtS tx sc (.ite t a b) st=true):Oz.E4 fun v c d p=>st=.If v c d p∧(mtE tx sc t v&&mtB tx sc a c&&mtB tx sc b d)=true:=by
 refine Oz.z fun ζ η=>?_
 obtain⟨⟨v,c,d,p⟩,h1,h⟩:=any_some h
 refine η ?_
 exact⟨v,c,d,p,Nc h1,h⟩
theorem Kd {t:CE}{b:CS}(h:mtS tx sc (.whil t b) st=true):Oz.E3 fun v c p=>st=.While v c [] p∧(mtE tx sc t v&&mtB tx sc b c)=true:=by
 refine Oz.z fun ζ η=>?_
 obtain⟨⟨v,c,d,p⟩,h1,h⟩:=any_some h
 obtain⟨h2,h⟩:=Oz.g14.mp h
 refine η ?_
 exact⟨v,c,p,by rw [K9 h1,show d=_ from emp h2],h⟩
theorem Kf {k:Nat}{ik:IK}{es:CEs}{b:CS}(h:mtS tx sc (.for1 k ik es b) st=true):Oz.E5 fun y py i c p=>st=.For (.Name y py) i c [] p∧sc.calm=true∧(sc.slots[k]? == some (some y)&&(!p0 ik&&nw tx sc ik es i)&&mtB tx sc b c)=true:=by
 refine Oz.z fun ζ η=>?_
 obtain⟨⟨v,i,c,d,p⟩,h1,h⟩:=any_some h
 obtain⟨⟨y,py⟩,h2,h⟩:=any_some h
 obtain⟨h3,h⟩:=Oz.g14.mp h
 obtain⟨h3,h4⟩:=Oz.g14.mp h3
 refine η ?_
 exact⟨y,py,i,c,p,by rw [Gd h1,show d=_ from emp h3,show v=_ from jz h2],h4,h⟩
theorem Ke {k₁ k₂:Nat}{e:CE}{b:CS}(h:mtS tx sc (.for2 k₁ k₂ e b) st=true):Oz.E12 fun y py z pz c pt x px v pc body p=>st=.For (.Tuple [.Name y py,.Name z pz] c pt) (.Call (.Name x px) [v] [] pc) body [] p∧sc.calm=true ∧
  (sc.slots[k₁]? == some (some y)&&sc.slots[k₂]? == some (some z)&&x == ("enumerate" : Str)&&glb sc x&&mtE tx sc e v&&mtB tx sc b body)=true:=by
 refine Oz.z fun ζ η=>?_
 obtain⟨⟨t,i,body,d,p⟩,h1,h⟩:=any_some h
 obtain⟨⟨l,c,pt⟩,h3,h⟩:=any_some h
 obtain⟨⟨e₁,e₂⟩,h4,h⟩:=any_some h
 obtain⟨⟨y,py⟩,h5,h⟩:=any_some h
 obtain⟨⟨z,pz⟩,h6,h⟩:=any_some h
 obtain⟨⟨x,px,args,pc⟩,h7,h⟩:=any_some h
 obtain⟨v,h8,h⟩:=any_some h
 obtain⟨h9,h⟩:=Oz.g14.mp h
 obtain⟨h9,h4'⟩:=Oz.g14.mp h9
 refine η ?_
 exact⟨y,py,z,pz,c,pt,x,px,v,pc,body,p,by rw [Gd h1,show d=_ from emp h9,show t=_ from D8 h3,show l=_ from vz h4,show e₁=_ from jz h5,show e₂=_ from jz h6,show i=_ from oh h7,show args=_ from nq h8],h4',h⟩
theorem Mg {e:CE}(h:mtS tx sc (.ret e) st=true):Oz.E2 fun v p=>st=.Return (some v) p∧mtE tx sc e v=true:=by
 refine Oz.z fun ζ η=>?_
 obtain⟨⟨o,p⟩,h1,h⟩:=any_some h
 obtain⟨v,h2,h⟩:=any_some h
 refine η ?_
 exact⟨v,p,by rw [Lu h1,show o=_ from h2],h⟩
theorem Hq {c:Nat}{m:Str}(h:mtS tx sc (.raise c m) st=true):Oz.E6 fun x px i q pc p=>st=.Raise (some (.Call (.Name x px) [.Constant (.str m) i q] [] pc)) none p∧(tx.exc&&sc.calm&&c != 0&&tx.clsName c == some x&&glb sc x)=true:=by
 refine Oz.z fun ζ η=>?_
 obtain⟨⟨o,o',p⟩,h1,h⟩:=any_some h
 obtain⟨h2,h⟩:=Oz.g14.mp h
 obtain⟨z,h3,h⟩:=any_some h
 obtain⟨⟨x,px,args,pc⟩,h4,h⟩:=any_some h
 obtain⟨w,h5,h⟩:=any_some h
 obtain⟨⟨k,i,q⟩,h6,h⟩:=any_some h
 obtain⟨v,h7,h⟩:=any_some h
 obtain⟨h,h8⟩:=Oz.g14.mp h
 refine η ?_
 exact⟨x,px,i,q,pc,p,by rw [Lv h1,show o=_ from h3,show o'=_ from Option.isNone_iff_eq_none.mp h2,show z=_ from oh h4,show args=_ from nq h5,show w=_ from mh h6,show k=_ from K0 h7,show v=_ from eq_of_beq h8],h⟩
theorem N3 {b:CS}{hs:CHs}(h:mtS tx sc (.tr b hs) st=true):Oz.E3 fun body hd p=>st=.Try body hd [] [] p∧(tx.exc&&sc.calm&&mtB tx sc b body&&!hd.isEmpty&&mtH tx ⟨sc.names,sc.slots,false⟩ hs hd)=true:=by
 refine Oz.z fun ζ η=>?_
 obtain⟨⟨b,k,o,g,p⟩,h1,h⟩:=any_some h
 obtain⟨h2,h⟩:=Oz.g14.mp h
 obtain⟨h3,h4⟩:=Oz.g14.mp h2
 refine η ?_
 exact⟨b,k,p,by rw [Le h1,show o=_ from emp h3,show g=_ from emp h4],h⟩
end
set_option tactic.hygienic true in
noncomputable def bn (Γ:Cx) (Rz:Rise) (f:Fm) (hid:List (Addr×Obj)) (ρ:List Addr) (Q:Flow→Shared→Prop) (E:Value→Shared→Prop):RS→Prop
 | .next l' h'=>∀ ρ' s',ρ<+:ρ'→At Γ f hid ρ' l' h' s'→Q .next s'
 | .ret v h'=>∀ v' l' ρ' s',ρ<+:ρ'→At Γ f hid ρ' l' h' s'→VR ρ' v v'→Q (.ret v') s'
 | .exc c l' h'=>EXQ Rz f hid ρ l' E c h'
 | .err=>False
theorem oy {Γ:Cx}{Rz:Rise}{f:Fm}{hid:List (Addr×Obj)}{ρ:List Addr}{Q:Flow→Shared→Prop}{E:Value→Shared→Prop}{c:Prop} [Decidable c] {r:RS}(p:bn Γ Rz f hid ρ Q E (if c then r else .err)):c∧bn Γ Rz f hid ρ Q E r:=by
 by_cases q:c
 ·rw [if_pos q] at p; exact⟨q,p⟩
 ·rw [if_neg q] at p; exact p.elim
section
variable (Γ:Cx) (Rz:Rise) (cl:CallO) (W n:Nat)
noncomputable def kg (b:CS):Prop := ∀ (f:Fm) (ss:List Stmt),FmK n f→mtB Γ.tx f.sc b ss=true→∀ hid ρ l h s Q E,At Γ f hid ρ l h s →
 bn Γ Rz f hid ρ Q E (exec Γ.G cl W b l h)→wpAny (model Γ.prog Γ.w) f.A (execs ss f.env) Q E s
noncomputable def iu (b:CS):Prop := ∀ (f:Fm) (st:Stmt),FmK n f→mtS Γ.tx f.sc b st=true→∀ hid ρ l h s Q E,At Γ f hid ρ l h s →
 bn Γ Rz f hid ρ Q E (exec Γ.G cl W b l h)→wpAny (model Γ.prog Γ.w) f.A (PySem.exec st f.env) Q E s
noncomputable def wk:CHs→Prop
 | .nil=>True
 | .cons _ _ b hs=>kg Γ Rz cl W n b∧wk hs
end
structure RzOk (Γ:Cx) (Rz:Rise):Prop where
 own:∀ (f:Fm) hid ρ l h c e s E,FmOk f→Rz f hid ρ l h c e s→(∀ e' s',Rz f hid ρ l h c e' s'→E e' s')→notedBy (model Γ.prog Γ.w) f.A f.env (cameBackBy (model Γ.prog Γ.w) f.A f.env E) e s
 unhide:∀ (f:Fm) hx hid ρ l h c e s,Rz f (hx++hid) ρ l h c e s→Rz f hid ρ l h c e s
section
variable {Γ:Cx}{Rz:Rise}{cl:CallO}{W n:Nat}{f:Fm}{hid:List (Addr×Obj)}{ρ ρ' : List Addr}{l:LOC}{h:HP}{s:Shared}{E:Value→Shared→Prop}
set_option tactic.hygienic true in
theorem bn.ext {Q:Flow→Shared→Prop}{r:RS}(p:ρ<+:ρ') (x:bn Γ Rz f hid ρ Q E r):bn Γ Rz f hid ρ' Q E r:=by
 cases r with
 | next l h=>exact fun ρ'' s' q t=>x ρ'' s' (p.trans q) t
 | ret v h=>exact fun v' l' ρ'' s' q t=>x v' l' ρ'' s' (p.trans q) t
 | exc c l h=>exact EXQ.ext p x
 | err=>exact x
theorem bn.thn {α:Type}{Q:Flow→Shared→Prop}{r:R α}{k:α→HP→RS}{okA:α→HP→Prop}(p:bn Γ Rz f hid ρ Q E (r.thn l k)) (hk:∀ a h',bn Γ Rz f hid ρ Q E (k a h')→okA a h'):aw r okA (EXQ Rz f hid ρ l E):=by
 cases r with
 | ok a h=>exact hk a h p
 | exc c h=>exact p
 | err=>exact p
theorem Ev:kg Γ Rz cl W n .skip:=by
 intro f ss ok hm hid ρ l h s Q E t p
 cases ss with
 | nil=>exact wpAny_execs_nil (p _ _ (Oz.g7 _) t)
 | cons _ _=>exact ba hm
set_option tactic.hygienic true in
theorem He {a b:CS}(ha:iu Γ Rz cl W n a) (hb:kg Γ Rz cl W n b):kg Γ Rz cl W n (.seq a b):=by
 intro f ss ok hm hid ρ l h s Q E t p
 cases ss with
 | nil=>exact ba hm
 | cons st rest =>
  replace hm:=Oz.g14.mp hm
  refine wpAny_execs_cons (ha f _ ok hm.1 hid ρ l h s _ E t ?_)
  have p:bn Γ Rz f hid ρ Q E ((exec Γ.G cl W a l h).thn fun l' h'=>exec Γ.G cl W b l' h'):=p
  cases r:exec Γ.G cl W a l h with
  | next l' h'=>rw [r] at p; exact fun ρ' s' pre t'=>hb f _ ok hm.2 hid ρ' l' h' s' Q E t' (bn.ext pre p)
  | ret v h'=>rw [r] at p; exact p
  | exc c l' h'=>rw [r] at p; exact p
  | err=>rw [r] at p; exact p
theorem Eo:iu Γ Rz cl W n .skip:=by
 intro f st ok hm hid ρ l h s Q E t p
 obtain⟨q,hq⟩:=Option.isSome_iff_exists.mp (show(paS st).isSome=true from hm)
 rw [Me hq]
 exact wpAny_Pass (p _ _ (Oz.g7 _) t)
theorem Es:iu Γ Rz cl W n .dead:=by
 intro f st ok hm hid ρ l h s Q E t p
 exact p.elim
theorem I2 {tx:Tx}{sc:Sc}{c:CE}{a:Expr}{b:List Comprehension}{d:Scope}{p:Pos}(h:mtE tx sc c (.ListComp a b d p)=true):Oz.E4 fun elt ik es cond=>c=.comp elt ik es cond:=by
 cases c with
 | comp elt ik es cond=>exact⟨_,_,_,_,rfl⟩
 | _=>exact ba h
theorem Kc {tx:Tx}{sc:Sc}{c:CE}{e:Expr}(h:mtE tx sc c e=true) (env:Env) (y:Str) (py:Pos) (ln:Nat) :
  swapsWith e (some (.Name y py)) ln env=pure false∨(swapsWith e (some (.Name y py)) ln env=pure true∧Oz.E4 fun elt ik es cond=>c=.comp elt ik es cond):=by
 have hk:=km h
 cases e with
 | ListComp a b d p =>
  have hc:Oz.E4 fun elt ik es cond=>c=.comp elt ik es cond:=by
   exact I2 h
  have e1:swapsWith (.ListComp a b d p) (some (.Name y py)) ln env=pure (env.blockKind == .function&&env.kindOf y == some .local&&py.line == p.line&&!(d.names.any fun(n,k)=>n == y&&(k == .local||k == .cell))):=rfl
  rw [e1]
  cases (env.blockKind == .function&&env.kindOf y == some .local&&py.line == p.line&&!(d.names.any fun(n,k)=>n == y&&(k == .local||k == .cell))) with
  | true=>exact .inr ⟨rfl,hc⟩
  | false=>exact .inl rfl
 | SetComp a b d p=>exact ba hk
 | DictComp a b d p q=>exact ba hk
 | _=>exact .inl rfl
theorem Hp {tx:Tx}{sc:Sc}{c:CE}{e:Expr}(h:mtE tx sc c e=true) (env:Env) (o:Expr) (x:Str) (py:Pos) (ln:Nat):swapsWith e (some (.Attribute o x py)) ln env=pure false:=by
 have hk:=km h
 cases e with
 | SetComp a b d p=>exact ba hk
 | DictComp a b d p q=>exact ba hk
 | _=>rfl
theorem Ho {tx:Tx}{sc:Sc}{c:CE}{e:Expr}(h:mtE tx sc c e=true) (env:Env) (o i:Expr) (py:Pos) (ln:Nat):swapsWith e (some (.Subscript o i py)) ln env=pure false:=by
 have hk:=km h
 cases e with
 | SetComp a b d p=>exact ba hk
 | DictComp a b d p q=>exact ba hk
 | _=>rfl
theorem Hn {tx:Tx}{sc:Sc}{c:CE}{e:Expr}(h:mtE tx sc c e=true) (hc:wx c=true) (env:Env) (ln:Nat):swapsWith e none ln env=pure false:=by
 have hk:=km h
 cases e with
 | ListComp a b d p=>obtain⟨_,_,_,_,rfl⟩:=I2 h; exact ba hc
 | SetComp a b d p=>exact ba hk
 | DictComp a b d p q=>exact ba hk
 | _=>rfl
noncomputable abbrev jj (Γ:Cx) (Rz:Rise) (cl:CallO) (n:Nat):Prop:=(∀ c,bg Γ Rz cl n c∧ic Γ Rz cl n c)∧∀ cs,ji Γ Rz cl n cs∧∀ c,cs=.cons c .nil→bg Γ Rz cl n c
theorem Hc {k:Nat}{e:CE}(cx:CxOk Γ) (cf:CxFn Γ) (al:jj Γ Rz cl n):iu Γ Rz cl W n (.asg k e):=by
 intro f st ok hm hid ρ l h s Q E t p
 replace hm:=Mi hm
 refine Oz.z fun ζ η=>?_
 obtain⟨y,py,v,pos,rfl,hm⟩:=hm
 refine η ?_
 ·simp only [Oz.g5,beq_iff_eq] at hm
  rcases Kc hm.2 f.env y py pos.line with q | ⟨q,elt,ik,es,cond,rfl⟩
  ·refine wpAny_Assign_Name ((al.1 e).1 f v ok hm.2 hid ρ l h s _ E t (p.thn fun x h1 p1 v' ρ1 s1 pre1 t1 vr1=>?_)) q
   exact t1.store ok.toFmOk hm.1 vr1 fun s2 t2 ζ=>p1 _ _ pre1 t2
  ·rw [exec_Assign_Name_used y py v pos q]
   refine wpAny_bind (wpAny_standAt (wpAny_bind (Ei cx cf (al.2 es).1 (al.2 es).2 (al.1 elt).1 (al.1 cond).2 ok hm.2 hm.1 t (p.thn fun x h1 p1 ρ1 s1 pre1 t1=>?_))))
   exact wpAny_pure (p1 _ _ pre1 t1)
theorem z9 {a e:CE}{k:Nat}(cx:CxOk Γ) (al:jj Γ Rz cl n):iu Γ Rz cl W n (.setAttr a k e):=by
 intro f st ok hm hid ρ l h s Q E t p
 replace hm:=Dk hm
 refine Oz.z fun ζ η=>?_
 obtain⟨_,_,_,_,_,rfl,hm⟩:=hm
 refine η ?_
 ·simp only [Oz.g5,beq_iff_eq] at hm
  obtain⟨⟨hx,m1⟩,m2⟩:=hm
  refine plainObj_wpAny_Assign_Attribute ((al.1 e).1 f _ ok m2 hid ρ l h s _ E t (p.thn fun v h1 p1 v' ρ1 s1 pre1 t1 vr1=>?_)) (Hp m2 ..)
  refine(al.1 a).1 f _ ok m1 hid ρ1 l h1 s1 _ E t1 (bn.thn (bn.ext pre1 p1) fun x h2 p2 x' ρ2 s2 pre2 t2 vr2=>?_)
  refine Bz t2 cx hx vr2 (vr1.mono pre2) (ex:=EXQ Rz f hid ρ1 l E) (bn.thn p2 fun ζ h3 p3=>?_)
  exact fun s' t'=>p3 _ s' pre2 t'
theorem z7 {a i e:CE}(cx:CxOk Γ) (al:jj Γ Rz cl n):iu Γ Rz cl W n (.setItem a i e):=by
 intro f st ok hm hid ρ l h s Q E t p
 replace hm:=Dj hm
 refine Oz.z fun ζ η=>?_
 obtain⟨_,_,_,_,_,rfl,hm⟩:=hm
 refine η ?_
 ·simp only [Oz.g5,beq_iff_eq] at hm
  obtain⟨⟨m1,m3⟩,m2⟩:=hm
  refine wpAny_Assign_Subscript ((al.1 e).1 f _ ok m2 hid ρ l h s _ E t (p.thn fun v h1 p1 v' ρ1 s1 pre1 t1 vr1=>?_)) (Ho m2 ..)
  refine(al.1 a).1 f _ ok m1 hid ρ1 l h1 s1 _ E t1 (bn.thn (bn.ext pre1 p1) fun x h2 p2 x' ρ2 s2 pre2 t2 vr2=>?_)
  refine(al.1 i).1 f _ ok m3 hid ρ2 l h2 s2 _ E t2 (bn.thn (bn.ext pre2 p2) fun y h3 p3 y' ρ3 s3 pre3 t3 vr3=>?_)
  refine By t3 (vr2.mono pre3) vr3 (vr1.mono (pre2.trans pre3)) (ex:=EXQ Rz f hid ρ2 l E) (bn.thn p3 fun ζ h4 p4=>?_)
  exact fun s' t'=>p4 _ s' pre3 t'
theorem we (ok:FmOk f):interactive f.env=false:=by
 unfold interactive
 simp [ok.kind]
theorem Jv {e:CE}(al:jj Γ Rz cl n):iu Γ Rz cl W n (.ex e):=by
 intro f st ok hm hid ρ l h s Q E t p
 replace hm:=N5 hm
 refine Oz.z fun ζ η=>?_
 obtain⟨_,_,rfl,hm⟩:=hm
 refine η ?_
 ·rw [Oz.g5] at hm
  rw [PySem.exec_Expr f.env _ _ (we ok.toFmOk) (Hn hm.1 hm.2 ..)]
  refine wpAny_bind (wpAny_standAt (wpAny_bind ((al.1 e).1 f _ ok hm.1 hid ρ l h s _ E t (p.thn fun x h1 p1 v' ρ1 s1 pre1 t1 vr1=>?_))))
  exact wpAny_dropValue (p1 _ _ pre1 t1)
theorem Hb {t₀:CE}{a b:CS}(al:jj Γ Rz cl n) (ha:kg Γ Rz cl W n a) (hb:kg Γ Rz cl W n b):iu Γ Rz cl W n (.ite t₀ a b):=by
 intro f st ok hm hid ρ l h s Q E t p
 replace hm:=Mh hm
 refine Oz.z fun ζ η=>?_
 obtain⟨_,_,_,_,rfl,hm⟩:=hm
 refine η ?_
 ·simp only [Oz.g5] at hm
  refine wpAny_If ((al.1 t₀).2 f _ ok hm.1.1 hid ρ l h s _ E t (p.thn fun x h1 p1=>?_))
  cases hx:truthy x with
  | none=>rw [hx] at p1; exact p1.elim
  | some c =>
   rw [hx] at p1
   refine⟨c,hx,fun ρ1 s1 pre1 t1=>?_⟩
   cases c with
   | true=>exact ha f _ ok hm.1.2 hid ρ1 l h1 s1 Q E t1 (bn.ext pre1 p1)
   | false=>exact hb f _ ok hm.2 hid ρ1 l h1 s1 Q E t1 (bn.ext pre1 p1)
theorem Ha {e:CE}(al:jj Γ Rz cl n):iu Γ Rz cl W n (.ret e):=by
 intro f st ok hm hid ρ l h s Q E t p
 replace hm:=Mg hm
 refine Oz.z fun ζ η=>?_
 obtain⟨_,_,rfl,hm⟩:=hm
 refine η ?_
 ·exact wpAny_Return_some ((al.1 e).1 f _ ok hm hid ρ l h s _ E t (p.thn fun x h1 p1 v' ρ1 s1 pre1 t1 vr1=>p1 _ _ _ _ pre1 t1 vr1))
theorem EXQ.own (rz:RzOk Γ Rz) (ok:FmOk f){c:Nat}{hx:List (Addr×Obj)}(x:EXQ Rz f hid ρ l E c h):EXQ Rz f (hx++hid) ρ l (notedBy (model Γ.prog Γ.w) f.A f.env (cameBackBy (model Γ.prog Γ.w) f.A f.env E)) c h :=
 fun e ρ' s' pre r=>rz.own f hid ρ' l h c e s' E ok (rz.unhide _ _ _ _ _ _ _ _ _ r) fun e' s'' r'=>x e' ρ' s'' pre r'
set_option tactic.hygienic true in
theorem Db {t₀:CE}{b:CS}(rz:RzOk Γ Rz) (al:jj Γ Rz cl n) (hb:kg Γ Rz cl W n b):iu Γ Rz cl W n (.whil t₀ b):=by
 intro f st ok hm hid ρ l h s Q E t p
 replace hm:=Kd hm
 refine Oz.z fun ζ η=>?_
 obtain⟨_,_,_,rfl,hm⟩:=hm
 refine η ?_
 ·simp only [Oz.g5] at hm
  refine wpAny_While (codeAny_whileLoop (fun k s'=>Oz.E3 fun ρ' l' h'=>ρ<+:ρ'∧At Γ f hid ρ' l' h' s'∧bn Γ Rz f hid ρ' Q E (gq (fun l' h'=>ev Γ.G cl t₀ l' h') (fun l' h'=>exec Γ.G cl W b l' h') k l' h')) ?_ W ⟨ρ,l,h,Oz.g7 _,t,p⟩)
  rintro k s' ⟨ρ',l',h',pre,t',p'⟩
  cases k with
  | zero=>exact p'.elim
  | succ k =>
   rw [Bv] at p'
   refine(al.1 t₀).2 f _ ok hm.1 hid ρ' l' h' s' _ _ t' (aw.mono (bn.thn p' fun x h1 p1=>p1) (fun x h1 p1=>?_) fun c h1 q=>EXQ.own (hx:=[]) rz ok.toFmOk q)
   cases hx:truthy x with
   | none=>rw [hx] at p1; exact p1.elim
   | some c =>
    rw [hx] at p1
    refine⟨c,hx,fun ρ1 s1 pre1 t1=>?_⟩
    cases c with
    | false=>exact wpAny_execs_nil (p1 _ _ pre1 t1)
    | true =>
     refine hb f _ ok hm.2 hid ρ1 l' h1 s1 _ _ t1 ?_
     have p1:=bn.ext pre1 p1
     cases r:exec Γ.G cl W b l' h1 with
     | next l2 h2 =>
      rw [r] at p1
      exact fun ρ2 s2 pre2 t2=>⟨k,Nat.lt_succ_self _,ρ2,l2,h2,(pre.trans pre1).trans pre2,t2,bn.ext pre2 p1⟩
     | ret v h2=>rw [r] at p1; exact p1
     | exc c l2 h2=>rw [r] at p1; exact EXQ.own (hx:=[]) rz ok.toFmOk p1
     | err=>rw [r] at p1; exact p1
set_option tactic.hygienic true in
theorem Er {k:Nat}{ik:IK}{es:CEs}{b:CS}(cx:CxOk Γ) (cf:CxFn Γ) (rz:RzOk Γ Rz) (al:jj Γ Rz cl n) (hb:kg Γ Rz cl W n b):iu Γ Rz cl W n (.for1 k ik es b):=by
 intro f st ok hm hid ρ l h s Q E t p
 replace hm:=Kf hm
 refine Oz.z fun ζ η=>?_
 obtain⟨_,_,_,_,_,rfl,hcm,hm⟩:=hm
 refine η ?_
 ·simp only [Oz.g5,beq_iff_eq] at hm
  obtain⟨⟨hk,nk,m1⟩,m2⟩:=hm
  refine wpAny_For (zy cx cf (al.2 es).1 (al.2 es).2 ok m1 t (p.thn fun vs h1 p1=>?_)) (rb m1 f.env)
  unfold ui
  obtain⟨items,g,er⟩:Oz.E2 fun items g=>bp ik vs h1=some (items,g):=by
   cases er:bp ik vs h1 with
   | none=>rw [er] at p1; exact p1.elim
   | some r=>exact⟨r.1,r.2,rfl⟩
  rw [er] at p1 ⊢
  intro it H hx ρ2 s2 pin hpk pre2 I hpn h0 hg t2
  cases hpk (by cases q:p0 ik with | false=>rfl | true=>rw [q] at nk; cases nk)
  replace I:=I.plain
  refine codeAny_forLoop (fun i s'=>Oz.E5 fun hx' j ρ' l' h'=>At Γ f (hx'++hid) ρ' l' h' s'∧H j hx' ρ'∧ρ<+:ρ'∧j≤items.length∧i=items.length+1 - j ∧
   bn Γ Rz f hid ρ' Q E (du g (fun v ζ l' h'=>exec Γ.G cl W b (l'.set k (some v)) h') (items.drop j) j l' h')) ?_ (items.length+1) ⟨hx,0,ρ2,l,h1,t2,h0,pre2,Nat.zero_le _,rfl,bn.ext pre2 p1⟩
  rintro i s' ⟨hx',j,ρ',l',h',tt,hj,pre,hjl,rfl,pp⟩
  by_cases hlt:j<items.length
  ·rw [List.drop_eq_getElem_cons hlt] at pp
   rw [yt] at pp
   obtain⟨hgk,pp⟩:=oy pp
   refine I.item f _ ρ' _ h' s' j hx' items[j] _ _ (fg hcm) tt hj hgk (Oz.g10 hlt) fun v' hx2 s2' tt2 hj2 vr2=>?_
   refine wpAny_assign_Name (tt2.store ok.toFmOk hk vr2 fun s3' tt3 ζ=>?_)
   refine hb f _ ok m2 _ ρ' _ h' s3' _ _ tt3 ?_
   cases r:exec Γ.G cl W b (l'.set k (some items[j])) h' with
   | next l2 h2 =>
    rw [r] at pp
    exact fun ρ3 s4 pre3 t4=>⟨items.length+1 - (j+1),Oz.o579 hlt,hx2,j+1,ρ3,l2,h2,t4,I.mono _ _ _ _ pre3 hj2,pre.trans pre3,hlt,rfl,bn.ext pre3 pp⟩
   | ret v h2=>rw [r] at pp; exact fun v' l2 ρ3 s4 pre3 t4 vr=>pp v' l2 ρ3 s4 pre3 t4.unhide vr
   | exc c l2 h2=>rw [r] at pp; exact EXQ.own rz ok.toFmOk pp
   | err=>rw [r] at pp; exact pp
  ·have hje:items.drop j=[]:=List.drop_eq_nil_of_le (Oz.o477 hlt)
   rw [hje] at pp
   rw [Ba] at pp
   obtain⟨hgk,pp⟩:=oy pp
   refine I.done f _ ρ' _ h' s' j hx' _ _ (fg hcm) tt hj hgk (by show items.length≤j; exact Oz.o477 hlt) fun s2' tt2=>?_
   exact wpAny_execs_nil (pp _ _ (Oz.g7 _) tt2)
end
end Sk
namespace Sk
open PySem PySem.Calls PySem.W PyProof.Rows PySem.Spec
theorem vj:∀ {names:List Str}{vals:List Value},names.length=vals.length→∀ n∈names,((names.zip vals).lookup n).isSome=true
 | [],_,_,n,h=>by cases h
 | m::r,[],hl,_,_=>by simp at hl
 | m::r,v::vs,hl,n,h=>by
  rw [List.zip_cons_cons,List.lookup_cons]
  by_cases q:(n == m)=true
  ·rw [q]; rfl
  ·rw [Bool.eq_false_iff.mpr q]
   rcases Oz.g6.mp h with e | h
   ·exact absurd (beq_iff_eq.mpr e) q
   ·exact vj (by simpa using hl) n h
theorem zd:∀ {names:List Str}{vals:List Value},names.length=vals.length→names.Nodup→(names.filterMap fun n=>((names.zip vals).lookup n).map (n,·))=names.zip vals:=by
 have key:∀ (names:List Str) (vals:List Value),names.length=vals.length→names.Nodup→∀ (f:Str→Option Value),(∀ n v,(names.zip vals).lookup n=some v→f n=some v)→(names.filterMap fun n=>(f n).map (n,·))=names.zip vals:=by
  intro names
  induction names with
  | nil=>intro vals _ _ _ _; rfl
  | cons m r ih =>
   intro vals hl hn f hf
   cases vals with
   | nil=>simp at hl
   | cons v vs =>
    rw [Oz.g20] at hn
    have e1:f m=some v:=hf m v (by simp)
    rw [List.filterMap_cons,e1]
    simp only [Option.map_some,List.zip_cons_cons]
    rw [ih vs (by simpa using hl) hn.2 f fun n w e=>hf n w ?_]
    rw [List.zip_cons_cons,List.lookup_cons]
    have hm:(n,w)∈r.zip vs:=bk e
    have:n∈r:=(List.of_mem_zip hm).1
    rw [show(n == m)=false from Bool.eq_false_iff.mpr fun q=>hn.1 (by rw [← eq_of_beq q]; exact this)]
    exact e
 intro names vals hl hn
 exact key _ _ hl hn _ fun ζ ζ e=>e
noncomputable def qs (p:Arguments):Bool:=p.1.isEmpty&&(p.3.isNone&&(p.4.isEmpty&&p.6.isNone))
theorem wj {fd:FuncData}{vals:List Value}(hp:qs fd.params=true) (hd:fd.defaults=.none) (hl:(fd.params.args.map (·.arg)).length=vals.length) (hn:(fd.params.args.map (·.arg)).Nodup) :
  bindArgs fd ⟨vals,[]⟩=pure ((fd.params.args.map (·.arg)).zip vals):=by
 refine Oz.z fun ζ η=>?_
 obtain⟨nm,ql,ps,bd,sc,gl,clo,df,kd,dc,pm,an,cd,ct,bt⟩:=fd
 obtain⟨po,ar,va,ko,kdf,ka,dfs⟩:=ps
 refine η ?_
 simp only at hp hd hl hn
 cases po with
 | cons _ _=>cases hp
 | nil =>
 cases va with
 | some _=>cases hp
 | none =>
 cases ko with
 | cons _ _=>cases hp
 | nil =>
 cases ka with
 | some _=>cases hp
 | none =>
 subst hd
 have h1:((ar.map (·.arg)).filter fun n=>(((ar.map (·.arg)).zip vals).lookup n).isNone)=[]:=by
  rw [List.filter_eq_nil_iff]
  intro n hm
  have:=vj hl n hm
  cases q:((ar.map (·.arg)).zip vals).lookup n with
  | none=>rw [q] at this; cases this
  | some _=>simp
 have h2:=zd hl hn
 have h3:(ar.map (·.arg)).take (ar.map (·.arg)).length=ar.map (·.arg):=List.take_length
 unfold bindArgs
 have hgt:¬ (vals.length>(ar.map (·.arg)).length):=Oz.o603 hl
 extract_lets -merge -underBinder +onlyGivenNames fname p posonly normal positional kwonly npos given slots extra
 refine Eq.trans (pure_bind _ _) ?_
 refine Eq.trans (pure_bind _ _) ?_
 extract_lets -merge -underBinder +onlyGivenNames d0 jp
 refine Eq.trans (if_neg ?c1) ?_
 case c1 =>
  show ¬ ((decide (vals.length>(ar.map (·.arg)).length)&&true)=true)
  rw [decide_eq_false hgt]; exact Bool.false_ne_true
 dsimp -zeta only [jp]
 clear jp
 extract_lets -merge -underBinder +onlyGivenNames d1 fd ms jp2
 have e1:d1=[]:=List.drop_nil
 have e2:ms=[]:=by
  show List.filter _ (List.take ((ar.map (·.arg)).length - d1.length) (ar.map (·.arg)))=[]
  rw [e1]
  show List.filter _ (List.take (ar.map (·.arg)).length (ar.map (·.arg)))=[]
  rw [h3]; exact h1
 refine Eq.trans (if_neg ?c2) ?_
 case c2=>rw [e2]; exact Bool.false_ne_true
 dsimp -zeta only [jp2]
 clear jp2
 rw [show(List.drop fd positional).zip d1=[] by rw [e1,List.zip_nil_right]]
 refine Eq.trans (pure_bind _ _) ?_
 refine Eq.trans (pure_bind _ _) ?_
 refine Eq.trans (if_neg Bool.false_ne_true) ?_
 show pure (List.filterMap (fun n=>Option.map (fun x=>(n,x)) (List.lookup n ((ar.map (·.arg)).zip vals))) (ar.map (·.arg)++[]))=_
 rw [List.append_nil,h2]
theorem uo {kd:Str→Option NameKind}{n:Str}:∀ {binds:List (Str×Value)}{m:Str→Option Value},n∉binds.map (·.1)→bindL kd binds m n=m n
 | [],_,_=>rfl
 | (k,v)::r,m,h=>by
  simp only [List.map_cons,Oz.g6,not_or] at h
  unfold bindL
  rw [uo h.2]
  split
  ·simp [h.1]
  ·rfl
theorem tj {kd:Str→Option NameKind}{n:Str}{v:Value}(hk:kd n=some .local):∀ {binds:List (Str×Value)}{m:Str→Option Value},(binds.map (·.1)).Nodup→(n,v)∈binds→bindL kd binds m n=some v
 | (k,w)::r,m,hn,h=>by
  rw [List.map_cons,Oz.g20] at hn
  unfold bindL
  rcases Oz.g6.mp h with e | h
  ·cases e; rw [uo hn.1,if_pos hk]; simp
  ·exact tj hk hn.2 h
theorem uq {kd:Str→Option NameKind}{n:Str}:∀ {binds:List (Str×Value)}{m:Str→Option Value},n∉binds.map (·.1)→bindC kd binds m n=m n
 | [],_,_=>rfl
 | (k,v)::r,m,h=>by
  simp only [List.map_cons,Oz.g6,not_or] at h
  unfold bindC
  rw [uq h.2]
  split
  ·rfl
  ·simp [h.1]
theorem tm {kd:Str→Option NameKind}{n:Str}{v:Value}(hk:kd n≠some .local):∀ {binds:List (Str×Value)}{m:Str→Option Value},(binds.map (·.1)).Nodup→(n,v)∈binds→bindC kd binds m n=some v
 | (k,w)::r,m,hn,h=>by
  rw [List.map_cons,Oz.g20] at hn
  unfold bindC
  rcases Oz.g6.mp h with e | h
  ·cases e; rw [uq hn.1,if_neg hk]; simp
  ·exact tm hk hn.2 h
theorem oz {α β:Type}:∀ {a:List α}{b:List β},a.length=b.length→(a.zip b).map (·.1)=a
 | [],[],_=>rfl
 | _::_,[],h=>by simp at h
 | [],_::_,h=>by simp at h
 | x::a,y::b,h=>by simp [oz (a:=a) (b:=b) (by simpa using h)]
noncomputable def I5 (d:Data):Option FuncData:=if h:d.ctorIdx=7 then some (Data.func.elim d h fun c=>c) else Option.none
theorem Hz {d:Data}{fd:FuncData}(h:I5 d=some fd):d=.func fd:=by
 obtain⟨q,h⟩:=dk h
 obtain⟨w0,rfl⟩:=Data.func.elim (motive:=fun e=>∃ w0,e=.func w0) d q fun w0=>⟨w0,rfl⟩
 cases h; rfl
noncomputable def Jd:FuncBody→Option (List Stmt) | .stmts b=>some b | _=>Option.none
theorem Im {b:FuncBody}{l:List Stmt}(h:Jd b=some l):b=.stmts l:=by
 cases b with
 | stmts b=>cases h; rfl
 | _=>exact br h
noncomputable def Nh (tx:Tx) (K:Frag) (slots:List Str) (fn:Fn) (fd:FuncData) (body:List Stmt):Bool :=
  fd.scope.isCoroutine == false&&fd.scope.isGenerator == false&&fd.scope.kind == .function&&codeIn K fd.code fd.qualname&&fd.closure.isEmpty&&fd.globals == mainGlobals&&fd.builtins == builtinsNs &&
    qs fd.params&&fd.defaults == .none&&fd.params.args.map (·.arg) == slots.take fn.np&&slots.length == fn.ns&&decide (fn.np≤fn.ns)&&decide slots.Nodup &&
    (slots.all fun x=>fd.scope.names.lookup x == some .local||fd.scope.names.lookup x == some .cell)&&decide ((cellsFrom 0 fd.scope.names []).map (·.1)).Nodup&&mtB tx ⟨fd.scope.names,slots.map some,true⟩ fn.code body
noncomputable def Ct (tx:Tx) (K:Frag) (a:Addr) (slots:List Str) (fn:Fn):Bool:=(K.lookup a).any fun o=>(I5 o.data).any fun fd=>(Jd fd.body).any fun body=>Nh tx K slots fn fd body
structure FnFact (Γ:Cx) (a:Addr) (fn:Fn) (slots:List Str) (fd:FuncData) (body:List Stmt):Prop where
 get:Oz.E3 fun oc od osl=>Γ.K.lookup a=some ⟨oc,od,.func fd,osl⟩
 co:fd.scope.isCoroutine=false
 gen:fd.scope.isGenerator=false
 kind:fd.scope.kind=.function
 bd:fd.body=.stmts body
 code:codeIn Γ.K fd.code fd.qualname=true
 clo:fd.closure=[]
 glob:fd.globals=mainGlobals
 blt:fd.builtins=builtinsNs
 par:qs fd.params=true
 dfl:fd.defaults=.none
 names:fd.params.args.map (·.arg)=slots.take fn.np
 len:slots.length=fn.ns
 le:fn.np≤fn.ns
 nd:slots.Nodup
 loc:∀ x∈slots,fd.scope.names.lookup x=some .local∨fd.scope.names.lookup x=some .cell
 cnd:((cellsFrom 0 fd.scope.names []).map (·.1)).Nodup
 mt:mtB Γ.tx ⟨fd.scope.names,slots.map some,true⟩ fn.code body=true
theorem Bb {Γ:Cx}{a:Addr}{slots:List Str}{fn:Fn}(h:Ct Γ.tx Γ.K a slots fn=true):Oz.E2 fun fd body=>FnFact Γ a fn slots fd body:=by
 replace h:=any_some h
 refine Oz.z fun ζ η=>?_
 obtain⟨⟨oc,od,dt,osl⟩,hk,h⟩:=h
 replace h:=any_some h
 obtain⟨fd,hd,h⟩:=h
 replace h:=any_some h
 obtain⟨body,hb,h⟩:=h
 refine η ?_
 replace hd:dt=_:=Hz hd
 rw [hd] at hk
 replace hb:=Im hb
 unfold Nh at h
 simp only [Oz.g5,beq_iff_eq,decide_eq_true_eq,List.isEmpty_iff,List.all_eq_true,Bool.or_eq_true] at h
 refine Oz.z fun ζ1 η1=>?_
 obtain⟨⟨⟨⟨⟨⟨⟨⟨⟨⟨⟨⟨⟨⟨⟨h1,h2⟩,h3⟩,h4⟩,h5⟩,h6⟩,h7⟩,h8⟩,h9⟩,h10⟩,h11⟩,h12⟩,h13⟩,h14⟩,h15⟩,h16⟩:=h
 refine η1 ?_
 exact⟨fd,body,⟨oc,od,osl,hk⟩,h1,h2,h3,hb,h4,h5,h6,h7,h8,h9,h10,h11,h12,h13,h14,h15,h16⟩
structure TxFn (Γ:Cx):Prop where
 fn:∀ fi a,Γ.tx.fnAddr fi=some a→∀ fn,Γ.G.fns fi=some fn→Oz.E3 fun slots fd body=>FnFact Γ a fn slots fd body
noncomputable def fu (f:Fm) (A' : Around) (fd:FuncData) (slots:List Str) (L' a:Addr) (oL:Obj):Fm :=
 let env:=newEnv fd.scope L' fd.globals (cellsFrom (L'+1) fd.scope.names []) (fd.qualname ++ ".<locals>.") (some a) fd.code none fd.builtins
 ⟨env,A'.deeper env,slots.map some,cellsFrom (L'+1) fd.scope.names [],(f.env.locals,oL)::f.fr0,f.env::f.outer⟩
structure RzCall (Γ:Cx) (Rz:Rise):Prop where
 leave:∀ (f:Fm) (A' : Around) (fd:FuncData) (slots:List Str) (a:Addr) (oL:Obj) hid ρ ρ' l l' h h' s s' c e (E:Value→Shared→Prop),FmOk f→A'.frames=f.A.frames→At Γ f hid ρ l h s→ρ<+:ρ'→s.heap.get? f.env.locals=some oL →
  FmOk (fu f A' fd slots s.heap.objs.size a oL) →
  Rz (fu f A' fd slots s.heap.objs.size a oL) (fv s.heap (f.cells.map (·.2))++hid) ρ' l' h' c e s'→(∀ e' s'',Rz f hid ρ' l h' c e' s''→E e' s'') →
  wpAny (model Γ.prog Γ.w) (fu f A' fd slots s.heap.objs.size a oL).A (leaving (fu f A' fd slots s.heap.objs.size a oL).env e) (fun ζ s''=>E e s'') E s'
section
variable {Γ:Cx}{Rz:Rise}{W n:Nat}{f:Fm}{hid:List (Addr×Obj)}{ρ:List Addr}{l:LOC}{h:HP}{s:Shared}
theorem Gp {A' : Around}{fd:FuncData}{slots:List Str}{L' a:Addr}{oL:Obj}{fn:Fn}{body:List Stmt}(ff:FnFact Γ a fn slots fd body) (okf:FmOk f) (hfr:A'.frames=f.A.frames) (hoL:∀ vs,oL.data≠.fields vs):FmOk (fu f A' fd slots L' a oL):=by
 have cn:((cellsFrom (L'+1) fd.scope.names []).map (·.1)).Nodup:=cellsFrom_names fd.scope.names 0 (L'+1) [] [] rfl ▸ ff.cnd
 have cel:∀ x,fd.scope.names.lookup x=some .cell→∃ c,(cellsFrom (L'+1) fd.scope.names []).lookup x=some c:=fun x e=>Option.isSome_iff_exists.mp (cellsFrom_some _ _ _ (.inl e))
 have slot:∀ (k:Nat) (x:Str),(slots.map some)[k]?=some (some x)→slots[k]?=some x:=fun k x e=>by
  rw [Oz.g12] at e
  obtain⟨y,e1,e2⟩:=Oz.g11.mp e
  rw [e1,Option.some.inj e2]
 refine⟨ff.kind,ff.glob,ff.blt,fun i j x hi hj=>?_,fun k x hk=>?_,fun x hx=>?_,cn,?_,fun p hp=>?_⟩
 ·have h1:=slot i x hi
  have h2:=slot j x hj
  obtain⟨a1,b1⟩:=Oz.g4.mp h1
  obtain⟨a2,b2⟩:=Oz.g4.mp h2
  have pw:=Oz.g30.mp ff.nd
  rcases Nat.lt_trichotomy i j with q | q | q
  ·exact absurd (b1.trans b2.symm) (pw i j a1 a2 q)
  ·exact q
  ·exact absurd (b2.trans b1.symm) (pw j i a2 a1 q)
 ·rcases ff.loc x (Oz.g16 (slot k x hk)) with q | q
  ·exact .inl q
  ·obtain⟨c,e⟩:=cel x q
   exact .inr ⟨q,c,e,e⟩
 ·obtain⟨c,e⟩:=cel x hx
  exact⟨c,e,e⟩
 ·refine Oz.z fun ζ η=>?_
  obtain⟨e,o,h1,h2,h3⟩:=okf.frs
  refine η ?_
  refine⟨_,e::o,?_,rfl,fun x hx=>?_⟩
  ·show A'.frames.map _=_
   rw [hfr,h1]; rfl
  ·rcases Oz.g6.mp hx with rfl | hx
   ·exact⟨by show fd.scope.kind≠_; rw [ff.kind]; decide,L',rfl,.head _⟩
   ·exact⟨(h3 x hx).1,(h3 x hx).2.imp fun L q=>⟨q.1,.tail _ q.2⟩⟩
 ·rcases Oz.g6.mp (show p∈(f.env.locals,oL)::f.fr0 from hp) with rfl | hp
  ·exact hoL
  ·exact okf.fnf p hp
set_option tactic.hygienic true in
theorem G7 (cx:CxOk Γ) (tf:TxFn Γ) (rc:RzCall Γ Rz) (hb:∀ b,kg Γ Rz (ae Γ.G W n) W n b):tu Γ Rz (ae Γ.G W (n+1)) (n+1):=by
 intro fi a hfa f A' ok hh hfr hroom hunits args vals hid ρ l h s Q E t va p
 unfold ae at p
 split at p
 case h_2=>exact p.elim
 rename_i fn hfn
 unfold Fn.run at p
 split at p
 case isFalse=>exact p.elim
 rename_i hal
 refine Oz.z fun ζ η=>?_
 obtain⟨slots,fd,body,ff⟩:=tf.fn fi a hfa fn hfn
 obtain⟨oc,od,osl,hk⟩:=ff.get
 have X:=ib t cx
 obtain⟨oL,hL⟩:=t.locObj
 refine η ?_
 have hnl:(fd.params.args.map (·.arg)).length=vals.length:=by
  rw [ff.names,va.length,hal,List.length_take,ff.len]
  exact Nat.min_eq_left ff.le
 have hnd:(fd.params.args.map (·.arg)).Nodup:=by rw [ff.names]; exact(List.take_sublist _ _).nodup ff.nd
 refine codeAny_call_function (Oz.o604 hroom) (X _ _ hk) rfl ff.co ff.gen ff.bd (codeRec_of X ff.code) (BindsTo.of_eq (s:=s) (wj ff.par ff.dfl hnl hnd) _ _ _ _ ?_)
 rw [ff.clo]
 refine wpAny_newFunctionEnv_cells ff.kind (fun x hx=>?_) fun env' he s' x=>?_
 ·have hm:x.1∈slots:=by
   have:x.1∈fd.params.args.map (·.arg):=(List.of_mem_zip (show(x.1,x.2)∈_ from hx)).1
   rw [ff.names] at this
   exact List.mem_of_mem_take this
  rcases ff.loc _ hm with q | q
  ·exact .inl q
  ·exact .inr ⟨q,cellsFrom_some _ _ _ (.inl q)⟩
 ·have hfm:env'=(fu f A' fd slots s.heap.objs.size a oL).env:=he
  have cn:((cellsFrom (s.heap.objs.size+1) fd.scope.names []).map (·.1)).Nodup:=cellsFrom_names fd.scope.names 0 (s.heap.objs.size+1) [] [] rfl ▸ ff.cnd
  rw [hfm] at x ⊢
  have okF:FmOk (fu f A' fd slots s.heap.objs.size a oL):=Gp ff ok hfr (t.locNf hL)
  have okK:FmK n (fu f A' fd slots s.heap.objs.size a oL):=⟨okF,by show A'.depth+1+2*n+2<_; exact Oz.o605 hroom,by show A'.units+3+16*n+16<_; exact Oz.o606 hunits⟩
  refine Oz.z fun ζ1 η1=>?_
  obtain⟨h₁,tk,rfl,_⟩:=x.done
  refine η1 ?_
  have k1:=x.toInCall.keep
  have clt:∀ q∈f.cells,q.2<s.heap.objs.size:=fun q hq=>t.all_lt _ (by unfold Fm.adr; simp only [Oz.g1]; exact .inr (.inl (Oz.g15 hq)))
  have nd:=t.nodup
  unfold Fm.adr at nd
  rw [Oz.g17] at nd
  have cnd:=(Oz.g17.mp nd.2.1).1
  have hcelm:∀ q∈(fu f A' fd slots s.heap.objs.size a oL).cells,h₁.IsCell q.2 (bindC (fu f A' fd slots s.heap.objs.size a oL).env.kindOf ((fd.params.args.map (·.arg)).zip vals) (fun ζ=>none) q.1):=fun q hq=>x.cell q.1 q.2 (ds cn hq)
  have ent:At Γ (fu f A' fd slots s.heap.objs.size a oL) (fv s.heap (f.cells.map (·.2))++hid) ρ (args.map some++List.replicate (fn.ns - fn.np) none) h { s with heap:=h₁,toks:=tk } := by
   refine t.enter (f' := fu f A' fd slots s.heap.objs.size a oL) (by rw [t.sh]) k1 hL rfl (fun q hq=>(ey hq).2) ?_ ?_ (Oz.g3 _) (fun q hq=>⟨_,hcelm q hq⟩) ⟨_,x.toInCall.ns,?_,?_⟩
   ·rw [Oz.g17]
    refine⟨?_,?_,fun c hc d hd e=>?_⟩
    ·show((cellsFrom (s.heap.objs.size+1) fd.scope.names []).map (·.2)).Nodup
     exact List.pairwise_map.mpr x.apart
    ·rw [Oz.g17]
     refine⟨gj cnd,by simp,fun c hc d hd e=>?_⟩
     refine Oz.z fun ζ2 η2=>?_
     obtain⟨q,hq,rfl⟩:=Oz.g8.mp hc
     obtain⟨q',hq',e'⟩:=Oz.g8.mp (ey hq).1
     refine η2 ?_
     have h1:=clt q' hq'
     rw [Oz.g9.mp hd] at e
     have h2:q.1=s.heap.objs.size:=e
     rw [e',h2] at h1
     exact Nat.lt_irrefl _ h1
    ·obtain⟨q,hq,rfl⟩:=Oz.g8.mp hc
     have habove:s.heap.objs.size<q.2:=x.above q.1 q.2 hq
     rcases Oz.g1.mp hd with hd | hd
     ·refine Oz.z fun ζ3 η3=>?_
      obtain⟨q2,hq2,rfl⟩:=Oz.g8.mp hd
      obtain⟨q',hq',e'⟩:=Oz.g8.mp (ey hq2).1
      refine η3 ?_
      have h1:=clt q' hq'
      rw [e',← e] at h1
      exact Nat.lt_irrefl _ (Nat.lt_trans h1 habove)
     ·rw [Oz.g9.mp hd] at e
      have h2:q.2=s.heap.objs.size:=e
      rw [h2] at habove
      exact Nat.lt_irrefl _ habove
   ·intro c hc
    rcases Oz.g1.mp hc with hc | hc
    ·obtain⟨q,hq,rfl⟩:=Oz.g8.mp hc
     exact .inr (Nat.le_of_lt (x.above q.1 q.2 hq))
    ·obtain⟨q,hq,rfl⟩:=Oz.g8.mp hc
     exact .inl (ey hq).1
   ·show(args.map some++List.replicate (fn.ns - fn.np) none).length=(slots.map some).length
    simp [hal,ff.len]
    have:=ff.le
    exact Oz.o117 this
   ·intro k y v hky hv
    have hk1:k<args.length:=by
     rcases Nat.lt_or_ge k args.length with q | q
     ·exact q
     ·rw [Oz.g29 (by simpa using q)] at hv
      rw [List.getElem?_replicate] at hv
      split at hv <;> simp at hv
    rw [Oz.g23 (by simpa using hk1),Oz.g12] at hv
    obtain⟨w,e1,e2⟩:=Oz.g11.mp hv
    cases e2
    obtain⟨v',ev',hvr⟩:=va.get e1
    have hsl:slots[k]?=some y:=by
     have:(slots.map some)[k]?=some (some y):=hky
     rw [Oz.g12] at this
     obtain⟨z,e3,e4⟩:=Oz.g11.mp this
     rw [e3,Option.some.inj e4]
    have hpk:(fd.params.args.map (·.arg))[k]?=some y:=by
     rw [ff.names,List.getElem?_take_of_lt (Oz.o607 hal hk1)]; exact hsl
    have hz:(y,v')∈(fd.params.args.map (·.arg)).zip vals:=by
     refine Oz.g16 (i:=k) ?_
     rw [List.getElem?_zip_eq_some]
     exact⟨hpk,ev'⟩
    have hzn:(((fd.params.args.map (·.arg)).zip vals).map (·.1)).Nodup:=by rw [oz hnl]; exact hnd
    refine⟨v',hvr,?_⟩
    by_cases hkl:(fu f A' fd slots s.heap.objs.size a oL).env.kindOf y=some .local
    ·exact .inl ⟨hkl,tj hkl hzn hz⟩
    ·rcases ff.loc y (Oz.g16 hsl) with q | q
     ·exact absurd q hkl
     ·obtain⟨c,ec⟩:=Option.isSome_iff_exists.mp (cellsFrom_some fd.scope.names (s.heap.objs.size+1) [] (.inl q))
      refine .inr ⟨hkl,c,ec,?_⟩
      have:=x.cell y c ec
      rw [tm hkl hzn hz] at this
      exact this
  have back:∀ ρ' l' h' s',ρ<+:ρ'→At Γ (fu f A' fd slots s.heap.objs.size a oL) (fv s.heap (f.cells.map (·.2))++hid) ρ' l' h' s'→At Γ f hid ρ' l h' s' := fun ρ' l' h' s' pre y =>
   t.leave y pre hL rfl fun q hq=>by
    obtain⟨v,o,e1,e2⟩:=t.cel q hq
    exact .inl ⟨o,ch (Oz.g15 hq) e1,e1⟩
  refine⟨(cx.nolimit.keeps t.keepBase).keeps k1,codeAny_func ?_⟩
  have hsc:(⟨fd.scope.names,slots.map some,true⟩:Sc)=(fu f A' fd slots s.heap.objs.size a oL).sc:=by
   show _=Sc.mk _ _ A'.handled.isNone
   rw [hh]; rfl
  refine hb fn.code (fu f A' fd slots s.heap.objs.size a oL) body okK (hsc ▸ ff.mt) _ ρ _ h _ _ _ ent ?_
  cases r:exec Γ.G (ae Γ.G W n) W fn.code (args.map some++List.replicate (fn.ns - fn.np) none) h with
  | next l' h'=>rw [r] at p; exact fun ρ' s' pre y=>p _ _ _ pre (back _ _ _ _ pre y) rfl
  | ret v h'=>rw [r] at p; exact fun v' l' ρ' s' pre y vr=>p _ _ _ pre (back _ _ _ _ pre y) vr
  | exc c l' h' =>
   rw [r] at p
   intro e ρ' s' pre rz
   exact rc.leave f A' fd slots a oL hid ρ ρ' l l' h h' s s' c e _ ok hfr t pre hL okF rz fun e' s'' rz'=>p e' ρ' s'' pre rz'
  | err=>rw [r] at p; exact p
end
end Sk
namespace Sk
open PySem PySem.Calls PySem.W PyProof.Rows PySem.Spec
noncomputable def enO (it:Addr) (k:Int) (old:Value):Obj := { cls:=.type "enumerate",dict:=none,data:=.fields #[.none,.bool false,.ref it,rawInt k,.none,old],slots := #[] }
noncomputable def bd2 (Γ:Cx) (cl:CallO) (W:Nat) (b:CS) (k₁ k₂:Nat) (v:AV) (n:Nat) (l' : LOC) (h' : HP):RS:=exec Γ.G cl W b ((l'.set k₁ (some (.int n))).set k₂ (some v)) h'
section
variable {Γ:Cx}{Rz:Rise}{cl:CallO}{W n:Nat}
set_option tactic.hygienic true in
theorem Ep {k₁ k₂:Nat}{e₀:CE}{b:CS}(cx:CxOk Γ) (cf:CxFn Γ) (rz:RzOk Γ Rz) (al:jj Γ Rz cl n) (hb:kg Γ Rz cl W n b):iu Γ Rz cl W n (.for2 k₁ k₂ e₀ b):=by
 intro f st ok hm hid ρ l h s Q E t p
 replace hm:=Ke hm
 refine Oz.z fun ζ η=>?_
 obtain⟨y,py,z,pz,tk0,pt,x,px,v,cpos,body,pos,rfl,hcm,hm⟩:=hm
 refine η ?_
 simp only [Oz.g5,beq_iff_eq] at hm
 refine Oz.z fun ζ1 η1=>?_
 obtain⟨⟨⟨⟨⟨hk1,hk2⟩,rfl⟩,hg⟩,m1⟩,m2⟩:=hm
 refine η1 ?_
 refine wpAny_For ?_ (fun ζ=>rfl)
 refine Call_Name rfl (t.blt ok.toFmOk cx cf hg (by decide) (by decide) Boot.«enumerate» ?_)
 have hpl:(backTo cpos (starEach [v] f.env)).any (·.1)=false:=by rw [nc m1]; rfl
 refine PySem.callWith_type (first:=[]) hpl (cu hpl ?_)
 rw [nc m1]
 refine spliced_cons ((al.1 e₀).1 f v ok m1 hid ρ l h s _ E t (p.thn fun a h1 p1 a' ρ1 s1 pre1 t1 vr1=>spliced_nil ?_))
 refine Oz.z fun ζ2 η2=>?_
 obtain⟨i,vs,rfl,ei⟩:Oz.E2 fun i vs=>a=.ref i∧h1[i]?=some (.list vs):=by
  cases a with
  | ref i =>
   have p1:bn Γ Rz f hid ρ Q E (match (match h1[i]? with | some (.list vs)=>some (vs,some (i,AO.list vs)) | _=>Option.none:Option (List AV×Grd)) with
    | some (items,g)=>du g (bd2 Γ cl W b k₁ k₂) items 0 l h1
    | Option.none=>.err):=p1
   cases ei:h1[i]? with
   | none=>rw [ei] at p1; exact p1.elim
   | some o =>
    rw [ei] at p1
    cases o with
    | list vs=>exact⟨i,vs,rfl,ei⟩
    | _=>exact p1.elim
  | _=>exact p1.elim
 have p1:bn Γ Rz f hid ρ Q E (du (some (i,AO.list vs)) (bd2 Γ cl W b k₁ k₂) vs 0 l h1):=by
  have p1:bn Γ Rz f hid ρ Q E (match (match h1[i]? with | some (.list vs)=>some (vs,some (i,AO.list vs)) | _=>Option.none:Option (List AV×Grd)) with
    | some (items,g)=>du g (bd2 Γ cl W b k₁ k₂) items 0 l h1
    | Option.none=>.err):=p1
  rw [ei] at p1; exact p1
 obtain⟨ad,had,rfl⟩:=vr1
 obtain⟨o,g1,r1⟩:=t1.obj i _ ad ei had
 obtain⟨vs',l1,v1⟩:=ci g1 r1
 refine η2 ?_
 refine call_enumerate_list l1 fun h2 he2 hit2 hsz2 hk2'=>?_
 obtain⟨oi,goi,oc,od⟩:=hit2
 have t2:At Γ f ([(s1.heap.objs.size+1,(enO s1.heap.objs.size 0 .none)),(s1.heap.objs.size,oi)]++hid) ρ1 l h1 { s1 with heap:=h2 } := by
  have ta:At Γ f ((s1.heap.objs.size,oi)::hid) ρ1 l h1 { s1 with heap:=h2 } := t1.hidNew (by rw [t1.sh]) hk2' (Oz.g3 _) goi
  refine ta.rehid [] (by rw [t1.sh]) (fun b o ζ e=>e) (fun ζ h=>by cases h) (fun q hq=>?_) ?_ fun q hq=>?_
  ·rcases Oz.g6.mp hq with rfl | hq
   ·exact he2
   ·exact ta.hidden q hq
  ·show((s1.heap.objs.size+1)::((s1.heap.objs.size,oi)::hid).map (·.1)).Nodup
   rw [Oz.g20]
   refine⟨fun hm=>?_,(cp.mp ta.nodup).1⟩
   rw [List.map_cons] at hm
   rcases Oz.g6.mp hm with e | hm
   ·exact absurd e (Nat.succ_ne_self _)
   ·have:=t1.all_lt _ (jt.mpr (.inl hm))
    exact absurd (show s1.heap.objs.size+1<s1.heap.objs.size from this) (Oz.o608)
  ·rcases Oz.g6.mp hq with rfl | hq
   ·refine⟨fun hm=>?_,?_⟩
    ·have:=t1.all_lt _ (jt (hid:=hid) |>.mpr (.inr hm))
     exact absurd this (by show ¬ (s1.heap.objs.size+1<s1.heap.objs.size); exact Oz.o608)
    ·cases q:Γ.base.get? (s1.heap.objs.size+1) with
     | none=>rfl
     | some o=>exact absurd (Heap.lt_size (t1.keepBase _ _ q)) (by show ¬ (s1.heap.objs.size+1<s1.heap.objs.size); exact Oz.o608)
   ·exact ta.hidOff hq
 refine wpAny_pyIter_enum he2 ?_
 generalize hE:s1.heap.objs.size+1=en at t2 ⊢
 generalize hI:s1.heap.objs.size=it at t2 ⊢
 have hne:en≠it:=by rw [← hE,← hI]; exact Nat.succ_ne_self _
 refine codeAny_forLoop_any (fun m s'=>Oz.E6 fun(j:Nat) (old:Value) (oi:Obj) (ρ' : List Addr) (l' : LOC) (h' : HP)=>At Γ f ([(en,(enO it (j:Int) old)),(it,oi)]++hid) ρ' l' h' s' ∧
  (oi.cls=.type "list_iterator" ∧ oi.data=.fields #[.ref ad,.int (j:Nat) 0])∧ρ1<+:ρ'∧j≤vs.length∧m=vs.length+1 - j ∧
  bn Γ Rz f hid ρ' Q E (du (some (i,.list vs)) (bd2 Γ cl W b k₁ k₂) (vs.drop j) j l' h')) ?_ (vs.length+1) ⟨0,.none,oi,ρ1,l,h1,t2,⟨oc,od⟩,Oz.g7 _,Nat.zero_le _,rfl,bn.ext pre1 p1⟩
 rintro m s' ⟨j,old,oi,ρ',l',h',tt,⟨oc,od⟩,pre,hjl,rfl,pp⟩
 have hGi:∀ hg:okG (some (i,.list vs)) h'=true,∃ ws,s'.heap.IsList ad ws.toArray∧VRs ρ' vs ws:=fun hg=>by
  obtain⟨o,g1,r1⟩:=tt.obj i _ ad (kj hg) (getElem?_pre pre had)
  exact ci g1 r1
 have hoe:=tt.hidden _ (.head _)
 have hoi:=tt.hidden (it,oi) (.tail _ (.head _))
 by_cases hlt:j<vs.length
 ·rw [List.drop_eq_getElem_cons hlt] at pp
  rw [yt] at pp
  refine Oz.z fun ζ3 η3=>?_
  obtain⟨hgk,pp⟩:=oy pp
  obtain⟨ws,lw,vw⟩:=hGi hgk
  obtain⟨v',e1,e2⟩:=vw.get (Oz.g10 hlt)
  refine η3 ?_
  refine wpAny_pyNext_enum_item (i:=j) hoe ⟨oi,hoi,oc,od⟩ lw (by simpa using e1) hne fun h3 heo hit3 ht3 hz3 hk3=>?_
  refine wpAny_letOwnedTupleGo_enum heo fun h4 he4 hs4=>?_
  replace hs4:Heap.SameBut en h3 h4:=hs4
  have helt:en<s'.heap.objs.size:=Heap.lt_size hoe
  have ht4:h4.IsTuple s'.heap.objs.size #[.int j s'.toks,v']:=⟨_,(hs4.2 _ (Nat.ne_of_gt helt)).trans ht3,rfl,_,rfl⟩
  have hz4:h4.objs.size=s'.heap.objs.size+1:=hs4.1.trans hz3
  refine wpAny_assign_Tuple (fg hcm) ht4 rfl rfl fun h5 hx5=>?_
  replace hx5:Heap.ExtBut h4.objs.size h4 h5:=hx5
  have old5:∀ b o,b<s'.heap.objs.size→h4.get? b=some o→h5.get? b=some o:=fun b o hb e=>hx5 b o (by rw [hz4]; exact Nat.ne_of_lt (Nat.lt_succ_of_lt hb)) e
  obtain⟨oi',goi',oc',od'⟩:=hit3
  have hilt:it<s'.heap.objs.size:=Heap.lt_size hoi
  have nd:=(cp.mp tt.nodup).1
  have t5:At Γ f ([(en,(enO it ((j:Int)+1) v')),(it,oi')]++hid) ρ' l' h' { s' with heap:=h5,toks:=s'.toks+1 } := by
   refine tt.rehid [en,it] (by rw [tt.sh]) (fun b o hb e=>?_) (fun c hc=>?_) (fun q hq=>?_) nd fun q hq=>?_
   ·simp only [Oz.g6,Oz.g0,or_false,not_or] at hb
    exact old5 b o (Heap.lt_size e) ((hs4.2 b hb.1).trans (hk3 b o hb.1 hb.2 e))
   ·simp only [Oz.g6,Oz.g0,or_false] at hc
    rcases hc with rfl | rfl
    ·exact tt.hidOff (.head _)
    ·exact tt.hidOff (p:=(c,oi)) (.tail _ (.head _))
   ·rcases Oz.g6.mp hq with rfl | hq
    ·exact old5 _ _ helt he4
    ·rcases Oz.g6.mp hq with rfl | hq
     ·exact old5 _ _ hilt ((hs4.2 _ hne.symm).trans goi')
     ·have g:=tt.hidden q (.tail _ (.tail _ hq))
      have n1:q.1≠en:=fun e=>by
       have:=(Oz.g20.mp nd).1
       exact this (List.mem_cons_of_mem _ (Oz.g8.mpr ⟨q,hq,e⟩))
      have n2:q.1≠it:=fun e=>by
       have:=(Oz.g20.mp (Oz.g20.mp nd).2).1
       exact this (Oz.g8.mpr ⟨q,hq,e⟩)
      exact old5 _ _ (Heap.lt_size g) ((hs4.2 _ n1).trans (hk3 _ _ n1 n2 g))
   ·rcases Oz.g6.mp hq with rfl | hq
    ·exact tt.hidOff (p:=(en,(enO it (j:Int) old))) (.head _)
    ·rcases Oz.g6.mp hq with rfl | hq
     ·exact tt.hidOff (p:=(it,oi)) (.tail _ (.head _))
     ·exact tt.hidOff (.tail _ (.tail _ hq))
  show wpAny _ f.A (do holding [v'] (assign (.Name y py) f.env (.int j s'.toks)); do holding [] (assign (.Name z pz) f.env v'); pure ()) _ _ _
  refine wpAny_bind (wpAny_holding (wpAny_assign_Name (t5.store ok.toFmOk hk1 (v:=.int (j:Int)) ⟨_,rfl⟩ fun s6 t6 ζ=>?_)))
  refine wpAny_bind (wpAny_holding (wpAny_assign_Name (t6.store ok.toFmOk hk2 e2 fun s7 t7 ζ=>wpAny_pure ?_)))
  refine hb f _ ok m2 _ ρ' _ h' s7 _ _ t7 ?_
  replace pp:bn Γ Rz f hid ρ' Q E ((exec Γ.G cl W b ((l'.set k₁ (some (.int j))).set k₂ (some vs[j])) h').thn fun l' h'=>du (some (i,AO.list vs)) (bd2 Γ cl W b k₁ k₂) (vs.drop (j+1)) (j+1) l' h'):=pp
  cases r:exec Γ.G cl W b ((l'.set k₁ (some (.int j))).set k₂ (some vs[j])) h' with
  | next l2 h2 =>
   rw [r] at pp
   refine fun ρ3 s4 pre3 t4=>⟨vs.length+1 - (j+1),Oz.o579 hlt,j+1,v',oi',ρ3,l2,h2,?_,⟨oc',od'⟩,pre.trans pre3,hlt,rfl,bn.ext pre3 pp⟩
   have ej:((j+1:Nat):Int)=(j:Int)+1:=by push_cast; rfl
   rw [ej]; exact t4
  | ret v h2=>rw [r] at pp; exact fun v' l2 ρ3 s4 pre3 t4 vr=>pp v' l2 ρ3 s4 pre3 t4.unhide vr
  | exc c l2 h2=>rw [r] at pp; exact EXQ.own rz ok.toFmOk pp
  | err=>rw [r] at pp; exact pp
 ·have hje:vs.drop j=[]:=List.drop_eq_nil_of_le (Oz.o477 hlt)
  rw [hje] at pp
  rw [Ba] at pp
  obtain⟨hgk,pp⟩:=oy pp
  obtain⟨ws,lw,vw⟩:=hGi hgk
  refine wpAny_pyNext_enum_end (i:=j) (fg hcm) hoe ⟨oi,hoi,oc,od⟩ lw (by simp [vw.length]; exact Oz.o477 hlt) fun h3 hx3=>wpAny_execs_nil (pp _ _ (Oz.g7 _) ?_)
  have nd:=(cp.mp tt.nodup).1
  refine tt.rehid [it] (by rw [tt.sh]) (fun b o hb e=>hx3 b o (by simpa using hb) e) (fun c hc=>by rw [Oz.g9.mp hc]; exact tt.hidOff (p:=(it,oi)) (.tail _ (.head _))) (fun q hq=>?_) (Oz.g20.mp (Oz.g20.mp nd).2).2 fun q hq=>tt.hidOff (.tail _ (.tail _ hq))
  refine hx3 _ _ (fun e=>?_) (tt.hidden q (.tail _ (.tail _ hq)))
  exact(Oz.g20.mp (Oz.g20.mp nd).2).1 (Oz.g8.mpr ⟨q,hq,e⟩)
end
end Sk
namespace Sk
open PySem PySem.Calls PySem.W PyProof.Rows PySem.Spec
section
variable {Γ:Cx}{Rz:Rise}{cl:CallO}{W n:Nat}
theorem Et {k₁ k₂:Nat}{e:CE}(al:jj Γ Rz cl n):iu Γ Rz cl W n (.asg2 k₁ k₂ e):=fun f st ok hm=>ba hm
structure ExcOk (Γ:Cx) (Rz:Rise) (cl:CallO) (W n:Nat):Prop where
 raise:∀ c m,iu Γ Rz cl W n (.raise c m)
 tr:∀ b hs,kg Γ Rz cl W n b→wk Γ Rz cl W n hs→iu Γ Rz cl W n (.tr b hs)
mutual
theorem f6 (cx:CxOk Γ) (cf:CxFn Γ) (rz:RzOk Γ Rz) (al:jj Γ Rz cl n) (ex:ExcOk Γ Rz cl W n):∀ b:CS,kg Γ Rz cl W n b∧iu Γ Rz cl W n b
 | .skip=>⟨Ev,Eo⟩
 | .seq a b=>⟨He (f6 cx cf rz al ex a).2 (f6 cx cf rz al ex b).1,fun f st ok hm=>by exact ba hm⟩
 | .asg k e=>⟨fun f ss ok hm=>ba hm,Hc cx cf al⟩
 | .asg2 k₁ k₂ e=>⟨fun f ss ok hm=>ba hm,Et al⟩
 | .setAttr a k e=>⟨fun f ss ok hm=>ba hm,z9 cx al⟩
 | .setItem a i e=>⟨fun f ss ok hm=>ba hm,z7 cx al⟩
 | .ex e=>⟨fun f ss ok hm=>ba hm,Jv al⟩
 | .ite t a b=>⟨fun f ss ok hm=>ba hm,Hb al (f6 cx cf rz al ex a).1 (f6 cx cf rz al ex b).1⟩
 | .whil t b=>⟨fun f ss ok hm=>ba hm,Db rz al (f6 cx cf rz al ex b).1⟩
 | .for1 k ik es b=>⟨fun f ss ok hm=>ba hm,Er cx cf rz al (f6 cx cf rz al ex b).1⟩
 | .for2 k₁ k₂ e b=>⟨fun f ss ok hm=>ba hm,Ep cx cf rz al (f6 cx cf rz al ex b).1⟩
 | .ret e=>⟨fun f ss ok hm=>ba hm,Ha al⟩
 | .raise c m=>⟨fun f ss ok hm=>ba hm,ex.raise c m⟩
 | .tr b hs=>⟨fun f ss ok hm=>ba hm,ex.tr b hs (f6 cx cf rz al ex b).1 (simH_all cx cf rz al ex hs)⟩
 | .dead=>⟨fun f ss ok hm=>ba hm,Es⟩
theorem simH_all (cx:CxOk Γ) (cf:CxFn Γ) (rz:RzOk Γ Rz) (al:jj Γ Rz cl n) (ex:ExcOk Γ Rz cl W n):∀ hs:CHs,wk Γ Rz cl W n hs
 | .nil=>trivial
 | .cons c a b hs=>⟨(f6 cx cf rz al ex b).1,simH_all cx cf rz al ex hs⟩
end
theorem G0:tu Γ Rz (ae Γ.G W 0) 0:=by
 intro fi a hfa f A' ok hh hfr hroom hunits args vals hid ρ l h s Q E t va p
 exact p.elim
theorem yd (cx:CxOk Γ) (cf:CxFn Γ) (ix:xu Γ) (tf:TxFn Γ) (rz:RzOk Γ Rz) (rc:RzCall Γ Rz) (ex:∀ cl n,jj Γ Rz cl n→ExcOk Γ Rz cl W n):∀ n,tu Γ Rz (ae Γ.G W n) n
 | 0=>G0
 | n+1=>by
  have ih:=yd cx cf ix tf rz rc ex n
  have al:jj Γ Rz (ae Γ.G W n) n:=⟨cr cx cf ix ih,simEs cx cf ix ih⟩
  exact G7 cx tf rc fun b=>(f6 cx cf rz al (ex _ n al) b).1
end
end Sk
namespace Sk
open PySem PySem.Calls PySem.W PyProof.Rows PySem.Spec
noncomputable def TxD.tx (D:TxD):Tx:=⟨fun i=>(D.fns.lookup i).bind (·.name),fun i=>(D.fns.lookup i).map (·.addr),fun c=>(D.cls[c]?).map (·.1),fun c=>(D.cls[c]?).map (·.2),fun n=>D.attrs[n]?,fun m=>D.mths[m]?,D.exc⟩
noncomputable def kn (r:Option (Option Value)) (a:Addr):Bool:=r == some (some (.ref a))
noncomputable def wd (r:Option (Option Value)) (x:String):Bool:=r == some (some (.builtin x))
noncomputable def xo (r:Option (Option Value)):Bool:=r == some none
noncomputable def Al (K:Frag):Bool:=K.all fun p=>match p.2.cls with | .type t=>t != "list" | _=>true
noncomputable def TxD.okFns (D:TxD) (K:Frag):Bool:=D.fns.all fun q=>match q.2.name with | none=>true | some x=>kn (nsIn K mainGlobals x) q.2.addr&&keepIn K (.ref q.2.addr)
noncomputable def TxD.okCode (D:TxD) (K:Frag):Bool:=D.fns.all fun q=>Ct D.tx K q.2.addr q.2.slots ⟨q.2.np,q.2.slots.length,q.2.code⟩
noncomputable def TxD.okCls (D:TxD) (K:Frag):Bool:=D.cls.all fun p=>kn (nsIn K mainGlobals p.1) p.2
noncomputable def I1 (K:Frag):Bool:=bltNames.all fun x=>xo (nsIn K mainGlobals x)
noncomputable def TxD.okM (D:TxD) (K:Frag) (C:Addr):Bool:=(D.methT.all fun p=>(D.mths[p.1]?).any fun x=>(D.fns.lookup p.2).any fun d=>kn (findIn K (.ref C) x) d.addr&&isFn K (.ref d.addr)&&keepIn K (.ref d.addr)&&decide (x∉D.attrs)) &&
  (D.init.all fun fi=>(D.fns.lookup fi).any fun d=>makesIn K C&&kn (findIn K (.ref C) "__init__") d.addr&&isFn K (.ref d.addr)&&keepIn K (.ref C)) &&
  (hasDictIn K C&&wd (findIn K (.ref C) "__getattribute__") "object.__getattribute__" && xo (findIn K (.ref C) "__getattr__")&&wd (findIn K (.ref C) "__setattr__") "object.__setattr__" && plainOver K C &&
   (D.attrs.all fun x=>xo (findIn K (.ref C) x)&&takerIn K C x == some none)&&decide D.attrs.Nodup)
noncomputable def TxD.okMth (D:TxD) (K:Frag):Bool:=D.cls.head?.elim (D.methT.isEmpty&&D.init.isNone&&D.attrs.isEmpty) fun p=>D.okM K p.2
noncomputable def TxD.ok (D:TxD) (K:Frag):Bool:=D.okFns K&&D.okCode K&&D.okCls K&&I1 K&&D.okMth K&&Al K
theorem my {r:Option (Option Value)}{a:Addr}(h:kn r a=true):r=some (some (.ref a)):=eq_of_beq h
theorem A7 {r:Option (Option Value)}{x:String}(h:wd r x=true):r=some (some (.builtin x)):=eq_of_beq h
theorem xm {r:Option (Option Value)}(h:xo r=true):r=some none:=eq_of_beq h
theorem It {a b c d:Bool}(h:(a&&b&&c&&d)=true):a=true∧b=true∧c=true∧d=true:=by
 rw [Oz.g5,Oz.g5,Oz.g5] at h
 exact⟨h.1.1.1,h.1.1.2,h.1.2,h.2⟩
structure OkM (D:TxD) (K:Frag) (C:Addr):Prop where
 mt:∀ p∈D.methT,Oz.E2 fun x d=>D.mths[p.1]?=some x∧D.fns.lookup p.2=some d∧kn (findIn K (.ref C) x) d.addr=true∧isFn K (.ref d.addr)=true∧keepIn K (.ref d.addr)=true∧x∉D.attrs
 ini:∀ fi,D.init=some fi→∃ d,D.fns.lookup fi=some d∧makesIn K C=true∧kn (findIn K (.ref C) "__init__") d.addr=true∧isFn K (.ref d.addr)=true∧keepIn K (.ref C)=true
 hd:hasDictIn K C=true
 ga:wd (findIn K (.ref C) "__getattribute__") "object.__getattribute__" = true
 gt:xo (findIn K (.ref C) "__getattr__")=true
 sa:wd (findIn K (.ref C) "__setattr__") "object.__setattr__" = true
 po:plainOver K C=true
 at_:∀ x∈D.attrs,xo (findIn K (.ref C) x)=true∧takerIn K C x=some none
 nd:D.attrs.Nodup
theorem Mf {D:TxD}{K:Frag}{C:Addr}(h:D.okM K C=true):OkM D K C:=by
 refine Oz.z fun ζ η=>?_
 obtain⟨h12,h3⟩:=Oz.g14.mp h
 obtain⟨h1,h2⟩:=Oz.g14.mp h12
 obtain⟨h3,b2⟩:=Oz.g14.mp h3
 obtain⟨h3,b1⟩:=Oz.g14.mp h3
 obtain⟨h3,a5⟩:=Oz.g14.mp h3
 obtain⟨a1,a2,a3,a4⟩:=It h3
 refine η ?_
 refine⟨fun p hp=>?_,fun fi hf=>?_,a1,a2,a3,a4,a5,fun x hx=>?_,of_decide_eq_true b2⟩
 ·refine Oz.z fun ζ1 η1=>?_
  obtain⟨x,e1,e2⟩:=any_some (List.all_eq_true.mp h1 p hp)
  obtain⟨d,e3,e4⟩:=any_some e2
  obtain⟨c1,c2,c3,c4⟩:=It e4
  refine η1 ?_
  exact⟨x,d,e1,e3,c1,c2,c3,of_decide_eq_true c4⟩
 ·rw [hf] at h2
  refine Oz.z fun ζ2 η2=>?_
  obtain⟨d,e3,e4⟩:=any_some (show((D.fns.lookup fi).any _)=true from h2)
  obtain⟨c1,c2,c3,c4⟩:=It e4
  refine η2 ?_
  exact⟨d,e3,c1,c2,c3,c4⟩
 ·obtain⟨e1,e2⟩:=Oz.g14.mp (List.all_eq_true.mp b1 x hx)
  exact⟨e1,eq_of_beq e2⟩
theorem qt {D:TxD}{K:Frag}(h:D.okMth K=true):(D.cls=[]∧D.methT=[]∧D.init=none∧D.attrs=[])∨Oz.E2 fun p r=>D.cls=p::r∧OkM D K p.2:=by
 unfold TxD.okMth at h
 cases hc:D.cls with
 | nil =>
  rw [hc] at h
  obtain⟨h1,h2⟩:=Oz.g14.mp (show(D.methT.isEmpty&&D.init.isNone&&D.attrs.isEmpty)=true from h)
  obtain⟨h3,h4⟩:=Oz.g14.mp h1
  exact .inl ⟨rfl,List.isEmpty_iff.mp h3,Option.isNone_iff_eq_none.mp h4,List.isEmpty_iff.mp h2⟩
 | cons p r =>
  rw [hc] at h
  exact .inr ⟨p,r,rfl,Mf h⟩
theorem kz {β:Type}{m:Nat}{d:β}:∀ {L:List (Nat×β)},L.lookup m=some d→(m,d)∈L
 | [],h=>by cases h
 | p::r,h=>by
  rw [List.lookup_cons] at h
  by_cases q:(m == p.1)=true
  ·rw [q] at h; cases h; rw [eq_of_beq q]; exact .head _
  ·rw [Bool.eq_false_iff.mpr q] at h; exact .tail _ (kz h)
structure LawAt (D:TxD) (prog:Program) (w:World) (s₁:Shared) (K:Frag) (mg mb:Str→Option Value) (w2:Addr) (vs:List Value) (ns:List Int):Prop where
 KX:K.In s₁.heap
 g:s₁.heap.Ns mainGlobals mg
 b:s₁.heap.Ns builtinsNs mb
 nolimit:s₁.heap.NoLimit
 bts:∀ x:Str,x≠("__name__" : Str)→mb x=bootBuiltins x
 sysm:∃ mm,s₁.heap.Ns sysModules mm
 lst:s₁.heap.IsList w2 vs.toArray
 isI:IntsAre vs ns
 few:ns.length≤200000
 ok:D.ok K=true
noncomputable def ia (D:TxD) (prog:Program) (w:World) (s₁:Shared) (K:Frag) (mg mb:Str→Option Value) (w2:Addr):Cx :=
 ⟨prog,w,hideAll s₁.heap [w2],s₁,K,D.tx,D.gl,mg,mb,s₁.heap.get? w2⟩
section
variable {D:TxD}{prog:Program}{w:World}{s₁:Shared}{K:Frag}{mg mb:Str→Option Value}{w2:Addr}{vs:List Value}{ns:List Int}
theorem LawAt.nsH (x:LawAt D prog w s₁ K mg mb w2 vs ns){a:Addr}{m:Str→Option Value}(h:s₁.heap.Ns a m):(hideAll s₁.heap [w2]).Ns a m:=by
 refine Oz.z fun ζ η=>?_
 obtain⟨o,es,ep,e1,e2,e3⟩:=h
 refine η ?_
 refine⟨o,es,ep,hideAll_get _ e1 fun hm=>?_,e2,e3⟩
 rw [Oz.g9.mp hm] at e1
 refine Oz.z fun ζ1 η1=>?_
 obtain⟨o',f1,f2,n,f3⟩:=x.lst
 refine η1 ?_
 rw [e1] at f1; cases f1
 rw [e2] at f3; cases f3
theorem LawAt.oks (x:LawAt D prog w s₁ K mg mb w2 vs ns):D.okFns K=true∧D.okCode K=true∧D.okCls K=true∧I1 K=true∧D.okMth K=true∧Al K=true:=by
 have:=x.ok
 unfold TxD.ok at this
 simp only [Oz.g5] at this
 refine Oz.z fun ζ η=>?_
 obtain⟨⟨⟨⟨⟨a,b⟩,c⟩,d⟩,e⟩,f⟩:=this
 refine η ?_
 exact⟨a,b,c,d,e,f⟩
theorem LawAt.kin (x:LawAt D prog w s₁ K mg mb w2 vs ns):K.In (hideAll s₁.heap [w2]):=by
 intro a o e
 refine hideAll_get _ (x.KX a o e) fun hm=>?_
 refine Oz.z fun ζ η=>?_
 obtain⟨o',f1,f2,n,f3⟩:=x.lst
 refine η ?_
 have:=x.KX a o e
 rw [Oz.g9.mp hm,f1] at this
 cases this
 have hn:=x.oks.2.2.2.2.2
 unfold Al at hn
 have:=List.all_eq_true.mp hn _ (frag_mem e)
 simp only [f2] at this
 exact absurd this (by decide)
where
 frag_mem {K:Frag}{a:Addr}{o:Obj}(h:K.lookup a=some o):(a,o)∈K:=by
  induction K with
  | nil=>cases h
  | cons p r ih =>
   rw [List.lookup_cons] at h
   by_cases q:(a == p.1)=true
   ·rw [q] at h; cases h; rw [eq_of_beq q]; exact .head _
   ·rw [Bool.eq_false_iff.mpr q] at h; exact .tail _ (ih h)
theorem LawAt.cls0 (x:LawAt D prog w s₁ K mg mb w2 vs ns){C:Addr}(h:D.tx.clsAddr 0=some C):Oz.E2 fun nm r=>D.cls=(nm,C)::r:=by
 unfold TxD.tx at h
 cases q:D.cls with
 | nil=>rw [q] at h; cases h
 | cons p r=>rw [q] at h; cases h; exact⟨p.1,r,rfl⟩
theorem LawAt.cxOk (x:LawAt D prog w s₁ K mg mb w2 vs ns):CxOk (ia D prog w s₁ K mg mb w2):=by
 have hm:=x.oks.2.2.2.2.1
 refine⟨x.kin,x.nsH x.g,x.nsH x.b,?_,x.bts,fun i j y hi hj=>?_,fun C hC=>?_⟩
 ·obtain⟨mc,h1,h2⟩:=x.nolimit
  exact⟨mc,x.nsH h1,h2⟩
 ·rcases qt hm with ⟨_,_,_,e⟩ | ⟨p,r,_,M⟩
  ·have hi:D.attrs[i]?=some y:=hi
   rw [e] at hi; cases hi
  ·obtain⟨a1,b1⟩:=Oz.g4.mp (show D.attrs[i]?=some y from hi)
   obtain⟨a2,b2⟩:=Oz.g4.mp (show D.attrs[j]?=some y from hj)
   have pw:=Oz.g30.mp M.nd
   rcases Nat.lt_trichotomy i j with q | q | q
   ·exact absurd (b1.trans b2.symm) (pw i j a1 a2 q)
   ·exact q
   ·exact absurd (b2.trans b1.symm) (pw j i a2 a1 q)
 ·obtain⟨nm,r,hc⟩:=x.cls0 hC
  rcases qt hm with ⟨e,_⟩ | ⟨p,r',e,M⟩
  ·rw [hc] at e; cases e
  ·rw [hc] at e; cases e
   refine⟨M.hd,A7 M.ga,xm M.gt,A7 M.sa,M.po,fun n y hy=>?_⟩
   obtain⟨h1,h2⟩:=M.at_ y (Oz.g16 (show D.attrs[n]?=some y from hy))
   exact⟨xm h1,h2⟩
set_option tactic.hygienic true in
theorem LawAt.cxFn (x:LawAt D prog w s₁ K mg mb w2 vs ns):CxFn (ia D prog w s₁ K mg mb w2):=by
 refine Oz.z fun ζ η=>?_
 obtain⟨o1,o2,o3,o4,o5,o6⟩:=x.oks
 refine η ?_
 have G:=x.nsH x.g
 have KI:=x.kin
 refine⟨fun i y hy=>?_,fun c y hy=>?_,fun y hy=>?_,fun c m fi hm=>?_,fun c fi hi=>?_,?_⟩
 ·have hy:(D.fns.lookup i).bind (·.name)=some y:=hy
  obtain⟨d,e1,e2⟩:=Oz.g22.mp hy
  have:=List.all_eq_true.mp o1 (i,d) (kz e1)
  simp only [e2,Oz.g5] at this
  exact⟨d.addr,by show(D.fns.lookup i).map _=_; rw [e1]; rfl,mg_of KI G (my this.1),this.2⟩
 ·have hy:(D.cls[c]?).map (·.1)=some y:=hy
  obtain⟨d,e1,e2⟩:=Oz.g11.mp hy
  have:=List.all_eq_true.mp o3 d (Oz.g16 e1)
  rw [e2] at this
  exact⟨d.2,by show(D.cls[c]?).map _=_; rw [e1]; rfl,mg_of KI G (my this)⟩
 ·exact mg_none_of KI G (xm (List.all_eq_true.mp o4 y hy))
 ·have hm:(if c=0 then D.methT.lookup m else none)=some fi:=hm
  split at hm
  ·rename_i hc
   have hmem:(m,fi)∈D.methT:=kz hm
   rcases qt o5 with ⟨_,e,_⟩ | ⟨p,r,hcl,M⟩
   ·rw [e] at hmem; cases hmem
   ·refine Oz.z fun ζ1 η1=>?_
    obtain⟨y,d,q1,q2,h1,h2,h3,h4⟩:=M.mt _ hmem
    refine η1 ?_
    refine⟨hc,p.2,y,d.addr,?_,q1,by show(D.fns.lookup fi).map _=_; rw [q2]; rfl,my h1,h2,h3,fun n hn=>h4 (Oz.g16 hn)⟩
    show(D.cls[0]?).map _=_
    rw [hcl]; rfl
  ·cases hm
 ·have hi:(if c=0 then D.init else none)=some fi:=hi
  split at hi
  ·rename_i hc
   rcases qt o5 with ⟨_,_,e,_⟩ | ⟨p,r,hcl,M⟩
   ·rw [e] at hi; cases hi
   ·refine Oz.z fun ζ2 η2=>?_
    obtain⟨d,q2,h1,h2,h3,h4⟩:=M.ini _ hi
    refine η2 ?_
    refine⟨hc,p.2,d.addr,?_,by show(D.fns.lookup fi).map _=_; rw [q2]; rfl,h1,my h2,h3,h4⟩
    show(D.cls[0]?).map _=_
    rw [hcl]; rfl
  ·cases hi
 ·refine Oz.z fun ζ3 η3=>?_
  obtain⟨mm,hs⟩:=x.sysm
  obtain⟨o,_,_,e,_⟩:=x.nsH hs
  refine η3 ?_
  exact⟨o,e⟩
theorem LawAt.txFn (x:LawAt D prog w s₁ K mg mb w2 vs ns):TxFn (ia D prog w s₁ K mg mb w2):=by
 refine⟨fun fi a ha fn hf=>?_⟩
 have ha:(D.fns.lookup fi).map (·.addr)=some a:=ha
 have hf:((D.fns.lookup fi).map fun d=>(⟨d.np,d.slots.length,d.code⟩:Fn))=some fn:=hf
 obtain⟨d,e1,e2⟩:=Oz.g11.mp ha
 rw [e1] at hf
 cases hf
 cases e2
 have:=List.all_eq_true.mp x.oks.2.1 (fi,d) (kz e1)
 obtain⟨fd,body,ff⟩:=Bb (Γ:=ia D prog w s₁ K mg mb w2) this
 exact⟨d.slots,fd,body,ff⟩
noncomputable def uz (tx:Tx) (params:Arguments) (scope:Scope) (body:List Stmt) (slots:List Str) (code:CS):Bool :=
 scope.isCoroutine == false&&scope.isGenerator == false&&scope.kind == .function&&qs params&&params.args.map (·.arg) == slots.take 1&&decide (1≤slots.length)&&decide slots.Nodup &&
  (slots.all fun x=>scope.names.lookup x == some .local||scope.names.lookup x == some .cell)&&decide ((cellsFrom 0 scope.names []).map (·.1)).Nodup&&mtB tx ⟨scope.names,slots.map some,true⟩ code body
set_option tactic.hygienic true in
theorem Jn (x:LawAt D prog w s₁ K mg mb w2 vs ns){Rz:Rise}{W n:Nat}{A:Around}{fa:Addr}{o:Obj}{fd:FuncData}{body:List Stmt}{slots:List Str}{code:CS}
  (hb:∀ b,kg (ia D prog w s₁ K mg mb w2) Rz (ae D.gl W n) W n b) (ho:s₁.heap.get? fa=some o) (hd:o.data=.func fd) (hcd:s₁.heap.CodeRec fd.code fd.qualname) (bd:fd.body=.stmts body) (clo:fd.closure=[]) (glob:fd.globals=mainGlobals)
  (blt:fd.builtins=builtinsNs) (dfl:fd.defaults=.none) (ck:uz D.tx fd.params fd.scope body slots code=true) (hh:A.handled=none) (hfr:A.frames=some []) (hroom:A.depth+2*n+3<recursionLimit) (hunits:A.units+16*n+20<cLine)
  (p:aw ((⟨1,slots.length,code⟩:Fn).run D.gl (ae D.gl W n) W [.ref 0] [.const (ns.map .int)]) (fun v h'=>v=.bool true∧∃ us,h'[0]?=some (.const us)) (fun ζ ζ=>False)) :
  codeAny (model prog w) A (.call (.ref fa) ⟨[.ref w2],[]⟩) (fun r s'=>r=.ok (.ret (.bool true))∧(∀ b o,s₁.heap.get? b=some o→s'.heap.get? b=some o)∧s'.os=s₁.os∧s'.gens=s₁.gens) s₁:=by
 unfold uz at ck
 simp only [Oz.g5,beq_iff_eq,decide_eq_true_eq,List.all_eq_true,Bool.or_eq_true] at ck
 refine Oz.z fun ζ η=>?_
 obtain⟨⟨⟨⟨⟨⟨⟨⟨⟨co,gen⟩,kind⟩,par⟩,names⟩,le⟩,nd⟩,loc⟩,cnd⟩,mt⟩:=ck
 refine η ?_
 have hnl:(fd.params.args.map (·.arg)).length=[Value.ref w2].length:=by rw [names,List.length_take]; simp; exact Oz.o615 le
 have hnd:(fd.params.args.map (·.arg)).Nodup:=by rw [names]; exact(List.take_sublist _ _).nodup nd
 refine codeAny_call_function (Oz.o616 hroom) ho hd co gen bd hcd (BindsTo.of_eq (s:=s₁) (wj par dfl hnl hnd) _ _ _ _ ?_)
 rw [clo]
 refine wpAny_newFunctionEnv_cells kind (fun y hy=>?_) fun env' he s' c=>?_
 ·have hm:y.1∈slots:=by
   have:y.1∈fd.params.args.map (·.arg):=(List.of_mem_zip (show(y.1,y.2)∈_ from hy)).1
   rw [names] at this
   exact List.mem_of_mem_take this
  rcases loc _ hm with q | q
  ·exact .inl q
  ·exact .inr ⟨q,cellsFrom_some _ _ _ (.inl q)⟩
 ·refine Oz.z fun ζ1 η1=>?_
  obtain⟨Γ,hΓ⟩:∃ Γ,Γ=ia D prog w s₁ K mg mb w2:=⟨_,rfl⟩
  obtain⟨f,hf⟩:∃ f:Fm,f=⟨env',A.deeper env',slots.map some,cellsFrom (s₁.heap.objs.size+1) fd.scope.names [],[],[]⟩:=⟨_,rfl⟩
  have cn:((cellsFrom (s₁.heap.objs.size+1) fd.scope.names []).map (·.1)).Nodup:=cellsFrom_names fd.scope.names 0 (s₁.heap.objs.size+1) [] [] rfl ▸ cnd
  have cel:∀ y,fd.scope.names.lookup y=some .cell→∃ a,(cellsFrom (s₁.heap.objs.size+1) fd.scope.names []).lookup y=some a:=fun y e=>Option.isSome_iff_exists.mp (cellsFrom_some _ _ _ (.inl e))
  have slot:∀ (k:Nat) (y:Str),(slots.map some)[k]?=some (some y)→slots[k]?=some y:=fun k y e=>by
   rw [Oz.g12] at e
   obtain⟨z,e1,e2⟩:=Oz.g11.mp e
   rw [e1,Option.some.inj e2]
  subst he
  have okF:FmOk f:=by
   rw [hf]
   refine⟨kind,glob,blt,fun i j y hi hj=>?_,fun k y hk=>?_,fun y hy=>?_,cn,?_,fun p hp=>(by cases hp)⟩
   ·obtain⟨a1,b1⟩:=Oz.g4.mp (slot i y hi)
    obtain⟨a2,b2⟩:=Oz.g4.mp (slot j y hj)
    have pw:=Oz.g30.mp nd
    rcases Nat.lt_trichotomy i j with q | q | q
    ·exact absurd (b1.trans b2.symm) (pw i j a1 a2 q)
    ·exact q
    ·exact absurd (b2.trans b1.symm) (pw j i a2 a1 q)
   ·rcases loc y (Oz.g16 (slot k y hk)) with q | q
    ·exact .inl q
    ·obtain⟨a,e⟩:=cel y q
     exact .inr ⟨q,a,e,e⟩
   ·obtain⟨a,e⟩:=cel y hy
    exact⟨a,e,e⟩
   ·refine⟨_,[],?_,rfl,fun x hx=>?_⟩
    ·show A.frames.map _=_
     rw [hfr]; rfl
    ·rw [Oz.g9.mp hx]
     exact⟨by show fd.scope.kind≠_; rw [kind]; decide,_,rfl,.head _⟩
  have okK:FmK n f:=⟨okF,by rw [hf]; show A.depth+1+2*n+2<_; exact Oz.o617 hroom,by rw [hf]; show A.units+3+16*n+16<_; exact Oz.o618 hunits⟩
  obtain⟨h₁,tk,rfl,_⟩:=c.done
  have k1:=c.toInCall.keep
  obtain⟨ol,l1,l2,ln,l3⟩:=x.lst
  refine η1 ?_
  have w2lt:w2<s₁.heap.objs.size:=Heap.lt_size l1
  have vints:VRs [w2] (ns.map .int) vs:=VRs.of_ints x.isI
  have ent:At Γ f [] [w2] ([AV.ref 0].map some++List.replicate (slots.length - 1) none) [.const (ns.map .int)] { s₁ with heap:=h₁,toks:=tk } := by
   rw [hΓ,hf]
   refine⟨rfl,⟨_,⟨c.toInCall.ns,fun b o e=>k1 b o (of_hideAll _ e),by show(hideAll s₁.heap [w2]).objs.size≤s₁.heap.objs.size; rw [hideAll_size]; exact Oz.g3 _⟩,?_,?_⟩,fun q hq=>⟨_,c.cell q.1 q.2 (ds cn hq)⟩,rfl,?_,?_,?_,fun q hq=>(by cases hq),fun q hq=>(by cases hq)⟩
   ·show([AV.ref 0].map some++List.replicate (slots.length - 1) none).length=(slots.map some).length
    simp; exact Oz.o619 le
   ·intro k y v hky hv
    have hk0:k=0:=by
     rcases Nat.lt_or_ge k 1 with q | q
     ·exact Oz.o620 q
     ·rw [Oz.g29 (by simpa using q)] at hv
      rw [List.getElem?_replicate] at hv
      split at hv <;> simp at hv
    subst hk0
    have hv:v=.ref 0:=by simpa using hv.symm
    subst hv
    have hsl:slots[0]?=some y:=slot 0 y hky
    have hpk:(fd.params.args.map (·.arg))[0]?=some y:=by rw [names,List.getElem?_take_of_lt (Oz.o214)]; exact hsl
    have hz:(y,Value.ref w2)∈(fd.params.args.map (·.arg)).zip [Value.ref w2]:=by
     refine Oz.g16 (i:=0) ?_
     rw [List.getElem?_zip_eq_some]
     exact⟨hpk,rfl⟩
    have hzn:(((fd.params.args.map (·.arg)).zip [Value.ref w2]).map (·.1)).Nodup:=by rw [oz hnl]; exact hnd
    refine⟨.ref w2,⟨w2,rfl,rfl⟩,?_⟩
    rcases loc y (Oz.g16 hsl) with q | q
    ·exact .inl ⟨q,tj q hzn hz⟩
    ·obtain⟨a,ec⟩:=cel y q
     have hnl' : fd.scope.names.lookup y≠some .local:=by rw [q]; decide
     refine .inr ⟨hnl',a,ec,?_⟩
     have:=c.cell y a ec
     rw [tm hnl' hzn hz] at this
     exact this
   ·intro i ao a h1 h2
    cases i with
    | zero =>
     simp at h1 h2
     subst h1; subst h2
     exact⟨ol,k1 _ _ l1,vs,ln,l2,l3,vints,by simpa using x.few,l1⟩
    | succ i=>simp at h1
   ·unfold Fm.adr
    show([w2]++((cellsFrom (s₁.heap.objs.size+1) fd.scope.names []).map (fun q:Str×Addr=>q.2)++([]++([]++[s₁.heap.objs.size])))).Nodup
    have above:∀ a∈(cellsFrom (s₁.heap.objs.size+1) fd.scope.names []).map (·.2),s₁.heap.objs.size<a:=fun a ha=>by
     obtain⟨q,hq,rfl⟩:=Oz.g8.mp ha
     exact c.above q.1 q.2 hq
    simp only [List.nil_append,List.singleton_append,Oz.g20,Oz.g17]
    refine⟨fun hm=>?_,List.pairwise_map.mpr c.apart,by simp,fun a ha b hb e=>?_⟩
    ·rcases Oz.g1.mp hm with hm | hm
     ·exact Nat.lt_irrefl _ (Nat.lt_trans w2lt (above _ hm))
     ·rw [Oz.g9.mp hm] at w2lt; exact Nat.lt_irrefl _ w2lt
    ·rw [Oz.g9.mp hb] at e
     have:=above a ha
     rw [e] at this; exact Nat.lt_irrefl _ this
   ·intro a ha
    have big:∀ a,s₁.heap.objs.size≤a→(hideAll s₁.heap [w2]).get? a=none:=fun a ha=>by
     cases q:(hideAll s₁.heap [w2]).get? a with
     | none=>rfl
     | some o=>exact absurd (Oz.g27 (Heap.lt_size (of_hideAll _ q)) ha) (Nat.lt_irrefl _)
    unfold Fm.adr at ha
    have ha:a∈[w2]++((cellsFrom (s₁.heap.objs.size+1) fd.scope.names []).map (fun q:Str×Addr=>q.2)++([]++([]++[s₁.heap.objs.size]))):=ha
    simp only [List.nil_append,Oz.g1,Oz.g9] at ha
    rcases ha with rfl | ha | rfl
    ·exact hideAll_none _ (.head _)
    ·obtain⟨q,hq,rfl⟩:=Oz.g8.mp ha
     exact big _ (Nat.le_of_lt (c.above q.1 q.2 hq))
    ·exact big _ (Oz.g3 _)
  have fin:∀ ρ' l' h' s',[w2]<+:ρ'→At Γ f [] ρ' l' h' s'→(∃ us,h'[0]?=some (.const us))→(∀ b o,s₁.heap.get? b=some o→s'.heap.get? b=some o)∧s'.os=s₁.os∧s'.gens=s₁.gens:=by
   intro ρ' l' h' s' pre t ⟨us,hus⟩
   refine⟨fun b o e=>?_,by rw [t.sh,hΓ]; rfl,by rw [t.sh,hΓ]; rfl⟩
   by_cases hbw:b=w2
   ·subst hbw
    refine Oz.z fun ζ2 η2=>?_
    obtain⟨o',g1,vs',m,_,_,_,_,hsc⟩:=t.obj 0 _ b hus (getElem?_pre pre rfl)
    refine η2 ?_
    rw [hΓ] at hsc
    have hsc:s₁.heap.get? b=some o' := hsc
    rw [e] at hsc; cases hsc
    exact g1
   ·refine t.keepBase b o ?_
    rw [hΓ]
    exact hideAll_get _ e (by simpa using hbw)
  refine⟨x.nolimit.keeps k1,codeAny_func ?_⟩
  have hbb:=hb code
  rw [← hΓ] at hbb
  have hA:f.A=A.deeper (newEnv fd.scope s₁.heap.objs.size fd.globals (cellsFrom (s₁.heap.objs.size+1) fd.scope.names []) (fd.qualname ++ ".<locals>.") (some fa) fd.code none fd.builtins):=by rw [hf]
  have hEn:f.env=newEnv fd.scope s₁.heap.objs.size fd.globals (cellsFrom (s₁.heap.objs.size+1) fd.scope.names []) (fd.qualname ++ ".<locals>.") (some fa) fd.code none fd.builtins:=by rw [hf]
  have hmt:mtB Γ.tx f.sc code body=true:=by
   have e:f.sc=⟨fd.scope.names,slots.map some,true⟩:=by rw [hf]; show Sc.mk _ _ (A.handled.isNone)=_; rw [hh]; rfl
   rw [e,hΓ]; exact mt
  have hpr:Γ.prog=prog∧Γ.w=w∧Γ.G=D.gl:=by rw [hΓ]; exact⟨rfl,rfl,rfl⟩
  have:=hbb f body okK hmt [] [w2] _ _ _ (fun fl s'=>(Except.ok (.ret (match fl with | .ret v=>v | _=>.none)):Result)=.ok (.ret (.bool true))∧(∀ b o,s₁.heap.get? b=some o→s'.heap.get? b=some o)∧s'.os=s₁.os∧s'.gens=s₁.gens)
   (fun e s'=>wpAny (model prog w) f.A (leaving f.env e) (fun ζ s''=>(Except.error e:Result)=.ok (.ret (.bool true))∧(∀ b o,s₁.heap.get? b=some o→s''.heap.get? b=some o)∧s''.os=s₁.os∧s''.gens=s₁.gens)
    (fun e' s''=>(Except.error e' : Result)=.ok (.ret (.bool true))∧(∀ b o,s₁.heap.get? b=some o→s''.heap.get? b=some o)∧s''.os=s₁.os∧s''.gens=s₁.gens) s') ent ?_
  ·rw [hpr.1,hpr.2.1,hA,hEn] at this
   exact this
  ·rw [hpr.2.2]
   unfold Fn.run at p
   rw [if_pos (show [AV.ref 0].length=1 from rfl)] at p
   simp only at p
   cases r:exec D.gl (ae D.gl W n) W code ([AV.ref 0].map some++List.replicate (slots.length - 1) none) [.const (ns.map .int)] with
   | next l' h'=>simp only [r] at p; exact absurd p.1 (by decide)
   | ret v h' =>
    simp only [r] at p
    intro v' l' ρ' s' pre t vr
    obtain⟨rfl,hus⟩:=p
    have vr:v'=.bool true:=vr
    subst vr
    exact⟨rfl,fin ρ' l' h' s' pre t hus⟩
   | exc c l' h'=>simp only [r] at p; exact p.elim
   | err=>simp only [r] at p; exact p.elim
end
end Sk
namespace Sk
open PySem PySem.Calls PySem.W PyProof.Rows PySem.Spec
section
variable {D:TxD}{prog:Program}{w:World}{s₁:Shared}{K:Frag}{mg mb:Str→Option Value}{w2:Addr}{vs:List Value}{ns:List Int}
theorem good_true {c:ClaimW}{cl:Str→Option Addr}{mean:ExcName→Option Value}{args:List WData}{r:Result}{s' : Shared}(hg:s₁.gens=#[]) (hn:∀ cls,c.raises args cls=false) (hp:c.post args (.bool true) args=true)
  (h:r=.ok (.ret (.bool true))∧(∀ b o,s₁.heap.get? b=some o→s'.heap.get? b=some o)∧s'.os=s₁.os∧s'.gens=s₁.gens):GoodW c cl mean args s₁ r s' := by
 refine Oz.z fun ζ η=>?_
 obtain⟨rfl,k,os,gs⟩:=h
 refine η ?_
 exact⟨.inl ⟨.bool true,.bool true,[],rfl,hn,.bool true,hp,fun ζ=>⟨List.nodup_nil,fun ζ h=>by cases h⟩⟩,k,os,gs.trans hg⟩
end
end Sk
namespace Sk
open PySem PySem.Calls PySem.W PyProof.Rows PySem.Spec
noncomputable abbrev bmV:List Value:=[.type "ValueError",.type "Exception",.type "BaseException",.type "object"]
noncomputable def Li:Value→Bool | .str _ _=>true | _=>false
theorem Jk {v:Value}(h:Li v=true):∃ n t,v=.str n t:=by
 cases v with
 | str n t=>exact⟨n,t,rfl⟩
 | _=>cases h
noncomputable def Ja (d:Data):Option (Array DictEntry×Nat):=if h:d.ctorIdx=3 then some (Data.dict.elim d h fun es ep=>(es,ep)) else Option.none
theorem Ig {d:Data}{es:Array DictEntry}{ep:Nat}(h:Ja d=some (es,ep)):d=.dict es ep:=by
 refine Oz.z fun ζ η=>?_
 obtain⟨q,h⟩:=dk h
 obtain⟨w0,w1,rfl⟩:=Data.dict.elim (motive:=fun e=>Oz.E2 fun w0 w1=>e=.dict w0 w1) d q fun w0 w1=>⟨w0,w1,rfl⟩
 refine η ?_
 cases h; rfl
noncomputable def Ii (d:Data):Option ClassData:=if h:d.ctorIdx=8 then some (Data.cls.elim d h fun c=>c) else Option.none
theorem Cy {d:Data}{cd:ClassData}(h:Ii d=some cd):d=.cls cd:=by
 obtain⟨q,h⟩:=dk h
 obtain⟨w0,rfl⟩:=Data.cls.elim (motive:=fun e=>∃ w0,e=.cls w0) d q fun w0=>⟨w0,rfl⟩
 cases h; rfl
noncomputable def v8 (K:Frag) (N:Addr):Bool:=(K.lookup N).any fun o=>(Ja o.data).any fun d=>d.1.toList.all (fun e=>Li e.key)&&(d.1.toList.find? (·.key.isStr "__init__")).isNone
theorem yi {K:Frag}{h:Heap}{N:Addr}(X:K.In h) (e:v8 K N=true):∃ m,h.Ns N m∧m "__init__" = none:=by
 refine Oz.z fun ζ η=>?_
 obtain⟨o,hk,e⟩:=any_some e
 obtain⟨⟨es,ep⟩,hd,e⟩:=any_some e
 refine η ?_
 rw [Oz.g5] at e
 refine⟨nsFind es,⟨o,es,ep,X _ _ hk,Ig hd,fun x hx=>?_,fun ζ=>rfl⟩,?_⟩
 ·exact Jk (List.all_eq_true.mp e.1 x (by simpa using hx))
 ·unfold nsFind findBy
  rw [← Array.find?_toList,Option.isNone_iff_eq_none.mp e.2]; rfl
noncomputable def Ls:Value→Option Addr | .ref a=>some a | _=>Option.none
theorem Jz {v:Value}{a:Addr}(h:Ls v=some a):v=.ref a:=by
 cases v with
 | ref a=>cases h; rfl
 | _=>exact br h
noncomputable def vn (K:Frag):List Value→Bool
 | []=>false
 | v::r=>(v::r) == bmV||((Ls v).any fun A=>(K.lookup A).any fun o=>(Ii o.data).any fun cd=>v8 K cd.ns)&&vn K r
theorem B4 {K:Frag}{h:Heap}(X:K.In h):∀ {l:List Value},vn K l=true→OwnTail h bmV l
 | [],e=>by cases e
 | v::r,e=>by
  rcases Bool.or_eq_true_iff.mp e with q | q
  ·rw [eq_of_beq q]; exact .base
  ·refine Oz.z fun ζ η=>?_
   obtain⟨q,q2⟩:=Oz.g14.mp q
   obtain⟨A,ha,q⟩:=any_some q
   obtain⟨⟨c,dd,dt,sl⟩,ho,q⟩:=any_some q
   obtain⟨cd,hc,q⟩:=any_some q
   obtain⟨m,hm,hi⟩:=yi X q
   have hc:dt=.cls cd:=Cy hc
   subst hc
   refine η ?_
   rw [Jz ha]
   exact .own (X _ _ ho) hm hi (B4 X q2)
noncomputable def sl6:List (Option Value)→Option (Option Value×Option Value×Option Value×Option Value×Option Value×Option Value)
 | [a,b,c,d,e,f]=>some (a,b,c,d,e,f)
 | _=>Option.none
theorem Ll {l:List (Option Value)}{a b c d e f:Option Value}(h:sl6 l=some (a,b,c,d,e,f)):l=[a,b,c,d,e,f]:=by
 cases l with
 | nil=>cases h
 | cons _ l=>cases l with
  | nil=>cases h
  | cons _ l=>cases l with
   | nil=>cases h
   | cons _ l=>cases l with
    | nil=>cases h
    | cons _ l=>cases l with
     | nil=>cases h
     | cons _ l=>cases l with
      | nil=>cases h
      | cons _ l=>cases l with
       | nil=>cases h; rfl
       | cons _ _=>cases h
noncomputable def zl (K:Frag) (C:Addr):Bool:=(K.lookup C).any fun o=>o.cls == .type "type" && (Ii o.data).any fun cd=>(cd.mro.head? == some (.ref C)&&vn K cd.mro.tail&&!cd.hasDel&&v8 K cd.ns)&&(sl6 o.slots.toList).any fun s=>s.2.2.2.2.1 == some (.builtin "ValueError.__new__")
theorem H0 {K:Frag}{C:Addr}(e:zl K C=true):Oz.E16 fun nm q N bs bm hdct sn sub ab col dd k0 k1 k2 k3 k5=>K.lookup C=some (excClassObj nm q C N bs bm hdct sn sub ab col dd k0 k1 k2 k3 k5 "ValueError.__new__")∧v8 K N=true∧vn K bm=true:=by
 refine Oz.z fun ζ η=>?_
 obtain⟨⟨c,dd,dt,sl⟩,ho,e⟩:=any_some e
 obtain⟨e0,e⟩:=Oz.g14.mp e
 obtain⟨cd,hc,e⟩:=any_some e
 obtain⟨e1,e2⟩:=Oz.g14.mp e
 obtain⟨⟨a,b,c',d,x,f⟩,hs,e2⟩:=any_some e2
 refine η ?_
 simp only [Oz.g5,beq_iff_eq] at e1
 refine Oz.z fun ζ1 η1=>?_
 obtain⟨⟨⟨h1,h2⟩,h3⟩,h4⟩:=e1
 have hc:dt=.cls cd:=Cy hc
 have hcl:c=.type "type" := eq_of_beq e0
 have hx:x=some (.builtin "ValueError.__new__"):=eq_of_beq e2
 have hsl:sl=#[a,b,c',d,x,f]:=by
  have:=Ll hs
  calc sl=sl.toList.toArray:=by simp
   _=_:=by rw [show sl.toList=_ from this]
 obtain⟨nm,bs,mro,ns,q,hdct,sn,sub,ab,col,dl⟩:=cd
 refine η1 ?_
 have hdl:dl=false:=by simpa using h3
 have hm:mro=.ref C::mro.tail:=by
  cases mro with
  | nil=>simp at h1
  | cons v r=>simp at h1; rw [h1]; rfl
 subst hc; subst hcl; subst hsl; subst hx; subst hdl
 refine⟨nm,q,ns,bs,mro.tail,hdct,sn,sub,ab,col,dd,a,b,c',d,f,?_,h4,h2⟩
 rw [ho]
 exact congrArg (fun m=>some (Obj.mk (.type "type") dd (.cls (ClassData.mk nm bs m ns q hdct sn sub ab col false)) _)) hm
noncomputable def ow (K:Frag) (D:Addr):Bool:=(clsIn K D).isSome&&findIn K (.ref D) "__getattribute__" == some (some (.builtin "BaseException.__getattribute__"))&&findIn K (.ref D) "__getattr__" == some none&&findIn K (.ref D) "__class__" == some (some (.builtin "object.__class__")) &&
 specialIn K (.builtin "object.__class__") "__get__" == some (some (.builtin "getset_descriptor.__get__"))&&takesIn K (.builtin "object.__class__") == some true&&mroIn K D (.type "object") == some true&&subIn K (.ref D) (.type "BaseException") == some true
structure CxEx (Γ:Cx):Prop where
 made:∀ c C,c≠0→Γ.tx.clsAddr c=some C→zl Γ.K C=true
 cls:∀ c C,c≠0→Γ.tx.clsAddr c=some C→ow Γ.K C=true
 hand:∀ c d C D,c≠0→d≠0→Γ.tx.clsAddr c=some C→Γ.tx.clsAddr d=some D→exmOne Γ.K (.ref C) (.ref D)=some (Γ.G.sub c d)
 isiV:∀ c C,c≠0→Γ.tx.clsAddr c=some C→kitOne Γ.K (.ref C) (.type "ValueError")=some true
 isi:∀ c d C D,c≠0→Γ.tx.clsAddr c=some C→Γ.tx.clsAddr d=some D→kitOne Γ.K (.ref C) (.ref D)=some (Γ.G.sub c d)
theorem xt (g:Array Value→Array Value) (o:Obj):(Obj.mapFields g o).dict=o.dict:=by
 obtain⟨c,d,dt,sl⟩:=o
 cases dt <;> rfl
noncomputable def Tr (B h:Heap) (a C:Addr) (fl:Value):Prop :=
 Oz.E5 fun oe vs T oT ts=>h.get? a=some oe∧(oe.cls=.ref C∧oe.dict=none)∧oe.data=.fields vs∧vs[1]?=some (.ref T)∧B.get? T=none∧T≠a∧h.get? T=some oT∧oT.data=.fields ts∧ts[3]?=some fl
noncomputable def Mk (h:Heap) (a C:Addr):Prop:=Oz.E2 fun oe vs=>h.get? a=some oe∧(oe.cls=.ref C∧oe.dict=none)∧oe.data=.fields vs∧vs[1]?=some .none
theorem v6 {e:Value}{env env' : Env}(h:env'.frame=env.frame):noteFrame e env=noteFrame e env' := by
 unfold noteFrame PySem.frameOf
 rw [h]
section
variable {M:Model}{A:Around}{E:Value→Shared→Prop}{s:Shared}{B:Heap}{env:Env}{outer:List Env}{L a C:Addr}{oe:Obj}{vs:Array Value}
theorem Be {head:Value}{hadNext:Bool}{Q:Unit→Shared→Prop}(hfr:A.frames=some (env::outer)) (hl:s.heap.FunFrames B (env::outer)) (hf:env.frame=some L) (he:s.heap.get? a=some oe) (hkb:B.StaysIn s.heap)
  (hen:B.get? a=none) (hc:oe.cls=.ref C∧oe.dict=none) (hd:oe.data=.fields vs) (hsz:1<vs.size) (k:∀ h',B.StaysIn h'→s.heap.UpToSlots h'→Tr B h' a C (rawInt L)→Q () { s with heap:=h' }) :
  wpAny M A (do let x ← PySem.frameOf env; let pl ← entryPlaceOf L hadNext; let b ← EntryCells.newEntry head x .none (rawInt L) .none pl; setField (.ref a) 1 b) Q E s:=by
 have hene:a∉(env::outer).filterMap (·.frame):=fun hm=>by
  obtain⟨_,o,ho,hnf⟩:=hl.mem hm
  rw [he] at ho; cases ho; exact hnf vs hd
 refine wpAny_bind (wpAny_frameOf_fun hfr hl hf fun h₁ hs₁=>?_)
 refine wpAny_bind (wpAny_entryPlaceOf fun pl hpl=>?_)
 unfold EntryCells.newEntry newFields
 refine wpAny_bind (wpAny_newObj_type ?_ (hpl.sizeOk5 _ _ _ _ _))
 generalize hT:({ cls:=.type "traceback",dict:=none,data:=.fields ([head,.ref L,.none,rawInt L,.none]++(if pl.isEmpty then List.replicate 6 Value.none else pl)).toArray }:Obj)=oT
 have hTd:oT.data=.fields ([head,.ref L,.none,rawInt L,.none]++(if pl.isEmpty then List.replicate 6 Value.none else pl)).toArray:=by rw [← hT]
 have he₁:h₁.get? a=some oe:=(hs₁.2.1 a hene).trans he
 have kb₁:B.StaysIn h₁:=fun b o hbo=>(hs₁.2.1 b fun hm=>by rw [(hl.mem hm).1] at hbo; cases hbo).trans (hkb b o hbo)
 have he₂:=Heap.get?_push_of_some (h:=h₁) oT he₁
 refine wpAny_setField he₂ hd hsz (k _ ?_ ?_ ?_)
 ·intro b o hbo
  rw [Heap.get?_update_other _ _ (fun q=>by rw [q,hbo] at hen; cases hen)]
  exact Heap.get?_push_of_some _ (kb₁ b o hbo)
 ·intro b o hb hnf
  obtain⟨sl,hs⟩:=hs₁.2.2 b o hb
  refine⟨sl,?_⟩
  rw [Heap.get?_update_other _ _ (fun q=>by rw [← q,he] at hb; cases hb; exact hnf vs hd)]
  exact Heap.get?_push_of_some _ hs
 ·have hTe:h₁.objs.size≠a:=Nat.ne_of_gt (Heap.lt_size he₁)
  have hd₃:=Obj.data_mapFields hd (·.setIfInBounds 1 (Value.ref h₁.objs.size))
  refine⟨_,_,h₁.objs.size,oT,_,Heap.get?_update_self _ he₂ (Obj.isFreed_of_fields hd₃),⟨(Obj.cls_mapFields _ _).trans hc.1,(xt _ _).trans hc.2⟩,hd₃,by simp [hsz],kb₁.fresh,hTe,?_,hTd,by simp⟩
  rw [Heap.get?_update_other _ _ hTe.symm]
  exact Heap.get?_push_size _ (by rw [← hT]; rfl)
theorem Ge {fl:Value}{fr:Option Addr}{Q:Unit→Shared→Prop}(hkb:B.StaysIn s.heap) (ht:Tr B s.heap a C fl)
  (k:∀ h',B.StaysIn h'→s.heap.UpToSlots h'→Tr B h' a C (fr.elim .none fun f=>rawInt f)→Q () { s with heap:=h' }):wpAny M A (setFlight (.ref a) fr) Q E s:=by
 refine Oz.z fun ζ η=>?_
 obtain⟨oe,vs,T,oT,ts,he,hc,hd,h1,hnT,hTe,hT,hdT,h3⟩:=ht
 refine η ?_
 have hsz3:3<ts.size:=(Array.getElem?_eq_some_iff.mp h3).1
 have other:∀ b,b≠T→(s.heap.update T (Obj.mapFields (·.setIfInBounds 3 (fr.elim Value.none fun f=>rawInt f)))).get? b=s.heap.get? b:=fun b hb=>Heap.get?_update_other _ _ (Ne.symm hb)
 unfold setFlight
 refine wpAny_bind (wpAny_field he hd h1 ?_)
 rw [if_pos (show(Value.ref T != Value.none)=true from by simp)]
 refine wpAny_setField hT hdT hsz3 (k _ (fun b o hbo=>(other b fun q=>by rw [q,hnT] at hbo; cases hbo).trans (hkb b o hbo)) (fun b o hb hnf=>⟨o.slots,(other b fun q=>by rw [q,hT] at hb; cases hb; exact hnf ts hdT).trans hb⟩) ?_)
 exact⟨oe,vs,T,_,_,(other a (Ne.symm hTe)).trans he,hc,hd,h1,hnT,hTe,Heap.get?_update_self _ hT (Obj.isFreed_of_fields (Obj.data_mapFields hdT _)),Obj.data_mapFields hdT _,by simp [hsz3]⟩
theorem J9 {Q:Unit→Shared→Prop}(hfr:A.frames=some (env::outer)) (hl:s.heap.FunFrames B (env::outer)) (hf:env.frame=some L) (hkb:B.StaysIn s.heap) (hen:B.get? a=none)
  (st:Mk s.heap a C∨Tr B s.heap a C .none∨Tr B s.heap a C (rawInt L)) (k:∀ h',B.StaysIn h'→s.heap.UpToSlots h'→Tr B h' a C (rawInt L)→Q () { s with heap:=h' }):wpAny M A (noteFrame (.ref a) env) Q E s:=by
 unfold noteFrame
 simp only [hf]
 rcases st with ⟨oe,vs,he,hc,hd,h1⟩ | ⟨oe,vs,T,oT,ts,he,hc,hd,h1,hnT,hTe,hT,hdT,h3⟩ | st
 ·refine wpAny_bind (wpAny_field he hd h1 ?_)
  rw [if_neg (by decide)]
  exact Be hfr hl hf he hkb hen hc hd (Array.getElem?_eq_some_iff.mp h1).1 k
 ·refine wpAny_bind (wpAny_field he hd h1 ?_)
  rw [if_pos (show(Value.ref T != Value.none)=true from by simp)]
  refine wpAny_bind (wpAny_field hT hdT h3 ?_)
  rw [if_neg (show ¬ ((Value.none == rawInt L)=true) from by simp [rawInt])]
  refine wpAny_bind (wpAny_setField hT hdT (Array.getElem?_eq_some_iff.mp h3).1 ?_)
  have other:∀ b,b≠T→(s.heap.update T (Obj.mapFields (·.setIfInBounds 3 Value.none))).get? b=s.heap.get? b:=fun b hb=>Heap.get?_update_other _ _ (Ne.symm hb)
  have noRecord:∀ b o,s.heap.get? b=some o→(∀ vs,o.data≠.fields vs)→b≠T:=fun b o hb hnf q=>by
   rw [q,hT] at hb; cases hb; exact hnf ts hdT
  refine Be hfr (hl.of_keeps fun b o hb hnf=>⟨o,(other b (noRecord b o hb hnf)).trans hb,rfl⟩) hf ((other a (Ne.symm hTe)).trans he)
   (fun b o hbo=>(other b fun q=>by rw [q,hnT] at hbo; cases hbo).trans (hkb b o hbo)) hen hc hd (Array.getElem?_eq_some_iff.mp h1).1 fun h' x1 x2 x3=>k h' x1 (fun b o hb hnf=>x2 b o ((other b (noRecord b o hb hnf)).trans hb) hnf) x3
 ·refine Oz.z fun ζ η=>?_
  obtain⟨oe,vs,T,oT,ts,he,hc,hd,h1,hnT,hTe,hT,hdT,h3⟩:=id st
  refine η ?_
  refine wpAny_bind (wpAny_field he hd h1 ?_)
  rw [if_pos (show(Value.ref T != Value.none)=true from by simp)]
  refine wpAny_bind (wpAny_field hT hdT h3 ?_)
  rw [if_pos (show(rawInt L == rawInt L)=true from by simp)]
  exact wpAny_pure (k s.heap hkb (.refl _) st)
end
noncomputable def Fm.frA (f:Fm):List Addr:=f.env.locals::f.fr0.map (·.1)
structure Cov (Γ:Cx) (f:Fm) (hid:List (Addr×Obj)) (ρ:List Addr) (B:Heap) (s:Shared):Prop where
 base:Γ.base.StaysIn B
 stays:B.StaysIn s.heap
 fr:∀ c∈f.frA,B.get? c=none
 has:∀ c∈ρ++(f.cells.map (·.2)++hid.map (·.1)),∀ o,s.heap.get? c=some o→B.get? c=some o
section
variable {Γ:Cx}{f:Fm}{hid:List (Addr×Obj)}{ρ:List Addr}{l:LOC}{h:HP}{s:Shared}{M:Model}{E:Value→Shared→Prop}{B:Heap}{h' : Heap}
theorem At.still (t:At Γ f hid ρ l h s) (ok:FmOk f) (cv:Cov Γ f hid ρ B s) (k:B.StaysIn h') (u:s.heap.UpToSlots h'):At Γ f hid ρ l h { s with heap:=h' }∧Cov Γ f hid ρ B { s with heap:=h' } := by
 have kk:∀ c∈ρ++(f.cells.map (·.2)++hid.map (·.1)),∀ o,s.heap.get? c=some o→h'.get? c=some o:=fun c hc o e=>k _ _ (cv.has c hc o e)
 have kc:∀ q∈f.cells,∀ o,s.heap.get? q.2=some o→h'.get? q.2=some o:=fun q hq o e=>kk _ (Oz.g24 _ (Oz.g18 _ (Oz.g15 hq))) o e
 obtain⟨m,F,hl,hm⟩:=t.frm
 refine⟨⟨by rw [t.sh],⟨m,⟨u.ns F.ns,fun b o e=>k _ _ (cv.base _ _ e),F.above⟩,hl,fun i y v a b=>?_⟩,fun q hq=>?_,t.len,fun i ao c a b=>?_,t.nodup,t.fresh,fun q hq=>?_,fun q hq=>?_⟩,⟨cv.base,k,cv.fr,fun c hc o e=>?_⟩⟩
 ·obtain⟨v',h1,h2⟩:=hm i y v a b
  exact⟨v',h1,h2.imp id fun⟨h3,c,h4,o,h5,h6⟩=>⟨h3,c,h4,o,kc _ (bk h4) o h5,h6⟩⟩
 ·obtain⟨v,o,h5,h6⟩:=t.cel q hq
  exact⟨v,o,kc q hq o h5,h6⟩
 ·obtain⟨o,h1,h2⟩:=t.obj i ao c a b
  exact⟨o,kk c (Oz.g18 _ (Oz.g16 b)) o h1,h2⟩
 ·exact kk _ (Oz.g24 _ (Oz.g24 _ (Oz.g15 hq))) _ (t.hidden q hq)
 ·obtain⟨sl,e⟩:=t.below q hq
  obtain⟨sl',e'⟩:=u _ _ e fun vs z=>ok.fnf q hq vs z
  exact⟨sl',e'⟩
 ·have hth:∃ o',s.heap.get? c=some o' := t.there c (by
   unfold Fm.adr
   simp only [Oz.g1] at hc ⊢
   rcases hc with hc | hc | hc
   ·exact .inl hc
   ·exact .inr (.inl hc)
   ·exact .inr (.inr (.inl hc)))
  obtain⟨o',e'⟩:=hth
  have e2:=kk c hc o' e'
  have e:h'.get? c=some o:=e
  rw [e] at e2; cases e2
  exact cv.has c hc _ e'
theorem At.frames (t:At Γ f hid ρ l h s) (ok:FmOk f) (cv:Cov Γ f hid ρ B s):∀ {es:List Env},(∀ env∈es,env.scope.kind≠.module∧∃ L,env.frame=some L∧L∈f.env.locals::f.fr0.map (·.1))→s.heap.FunFrames B es
 | [],_=>trivial
 | env::r,hh=>by
  obtain⟨hk,L,hf,hL⟩:=hh env (.head _)
  refine⟨hk,⟨L,?_⟩,t.frames ok cv fun e he=>hh e (.tail _ he)⟩
  have hB:=cv.fr L hL
  rcases Oz.g6.mp hL with rfl | hm
  ·obtain⟨o,e⟩:=t.locObj
   exact⟨o,hf,hB,e,t.locNf e⟩
  ·refine Oz.z fun ζ η=>?_
   obtain⟨q,hq,rfl⟩:=Oz.g8.mp hm
   obtain⟨sl,e⟩:=t.below q hq
   refine η ?_
   exact⟨_,hf,hB,e,fun vs z=>ok.fnf q hq vs z⟩
end
structure RzS (Γ:Cx) (f:Fm) (hid:List (Addr×Obj)) (ρ:List Addr) (l:LOC) (h:HP) (c:Nat) (a C:Addr) (B:Heap) (s:Shared):Prop where
 exc:Γ.tx.exc=true∧c≠0
 cls:Γ.tx.clsAddr c=some C
 at_:At Γ f hid ρ l h s
 cov:Cov Γ f hid ρ B s
 off:B.get? a=none
noncomputable def Rzz (Γ:Cx):Rise:=fun f hid ρ l h c e s=>Oz.E4 fun a C B L=>e=.ref a∧RzS Γ f hid ρ l h c a C B s∧f.env.frame=some L∧(Mk s.heap a C∨Tr B s.heap a C .none∨Tr B s.heap a C (rawInt L))
section
variable {Γ:Cx}{f:Fm}{hid:List (Addr×Obj)}{ρ:List Addr}{l:LOC}{h:HP}{s:Shared}{M:Model}{E:Value→Shared→Prop}{B:Heap}{c:Nat}{a C L:Addr}{A:Around}
theorem wq {Q:Unit→Shared→Prop}(hA:A.frames=f.A.frames) (ok:FmOk f) (r:RzS Γ f hid ρ l h c a C B s) (hL:f.env.frame=some L) (st:Mk s.heap a C∨Tr B s.heap a C .none∨Tr B s.heap a C (rawInt L))
  (k:∀ s',RzS Γ f hid ρ l h c a C B s'→Tr B s'.heap a C (rawInt L)→Q () s'):wpAny M A (noteFrame (.ref a) f.env) Q E s:=by
 refine Oz.z fun ζ η=>?_
 obtain⟨env',outer,h1,h2,h3⟩:=ok.frs
 refine η ?_
 rw [v6 h2]
 refine J9 (hA.trans h1) (r.at_.frames ok r.cov h3) (h2.trans hL) r.cov.stays r.off st fun h' x1 x2 x3=>?_
 obtain⟨t',cv'⟩:=r.at_.still ok r.cov x1 x2
 exact k _ ⟨r.exc,r.cls,t',cv',r.off⟩ x3
theorem rp {Q:Unit→Shared→Prop}{fl:Value}{fr:Option Addr}(ok:FmOk f) (r:RzS Γ f hid ρ l h c a C B s) (st:Tr B s.heap a C fl)
  (k:∀ s',RzS Γ f hid ρ l h c a C B s'→Tr B s'.heap a C (fr.elim .none fun f=>rawInt f)→Q () s'):wpAny M A (setFlight (.ref a) fr) Q E s:=by
 refine Ge r.cov.stays st fun h' x1 x2 x3=>?_
 obtain⟨t',cv'⟩:=r.at_.still ok r.cov x1 x2
 exact k _ ⟨r.exc,r.cls,t',cv',r.off⟩ x3
theorem FmOk.frame (ok:FmOk f):∃ L,f.env.frame=some L:=by
 refine Oz.z fun ζ η=>?_
 obtain⟨env',outer,h1,h2,h3⟩:=ok.frs
 obtain⟨_,L,hf,_⟩:=h3 env' (.head _)
 refine η ?_
 exact⟨L,h2.symm.trans hf⟩
theorem Ew:RzOk Γ (Rzz Γ):=by
 refine⟨fun f hid ρ l h c e s E ok r k=>?_,fun f hx hid ρ l h c e s r=>?_⟩
 ·refine Oz.z fun ζ η=>?_
  obtain⟨a,C,B,L,rfl,r,hL,st⟩:=r
  refine η ?_
  unfold notedBy
  refine wq rfl ok r hL st fun s' r' st'=>?_
  unfold cameBackBy
  refine Oz.z fun ζ1 η1=>?_
  obtain⟨oe,vs,T,oT,ts,he,hc,hd,h1,_⟩:=id st'
  refine η1 ?_
  refine wpAny_bind (wpAny_field he hd h1 ?_)
  rw [if_neg (show ¬ ((Value.ref T == Value.none)=true) from by simp)]
  rw [hL]
  exact rp ok r' st' fun s'' r'' st''=>k _ _ ⟨a,C,B,L,rfl,r'',hL,.inr (.inr st'')⟩
 ·refine Oz.z fun ζ2 η2=>?_
  obtain⟨a,C,B,L,rfl,r,hL,st⟩:=r
  refine η2 ?_
  refine⟨a,C,B,L,rfl,⟨r.exc,r.cls,r.at_.unhide,⟨r.cov.base,r.cov.stays,r.cov.fr,fun c hc o e=>r.cov.has c ?_ o e⟩,r.off⟩,hL,st⟩
  simp only [Oz.g1,List.map_append] at hc ⊢
  exact hc.imp id fun h=>h.imp id .inr
theorem Hg:RzCall Γ (Rzz Γ):=by
 refine⟨fun f A' fd slots a' oL hid ρ ρ' l l' h h' s s' c e E ok hfr t pre hL okF r k=>?_⟩
 refine Oz.z fun ζ η=>?_
 obtain⟨a,C,B,L,rfl,r,hFL,st⟩:=r
 refine η ?_
 unfold leaving
 refine wpAny_bind (wq rfl okF r hFL st fun s1 r1 st1=>?_)
 refine rp okF r1 st1 fun s2 r2 st2=>?_
 obtain⟨Lf,hLf⟩:=ok.frame
 refine k _ _ ⟨a,C,B,Lf,rfl,⟨r2.exc,r2.cls,?_,?_,r2.off⟩,hLf,.inr (.inl st2)⟩
 ·exact t.leave r2.at_ pre hL rfl fun q hq=>by
   obtain⟨v,o,e1,e2⟩:=t.cel q hq
   exact .inl ⟨o,ch (Oz.g15 hq) e1,e1⟩
 ·refine⟨r2.cov.base,r2.cov.stays,fun c hc=>r2.cov.fr c ?_,fun c hc o e=>r2.cov.has c ?_ o e⟩
  ·exact .tail _ hc
  ·simp only [Oz.g1,List.map_append] at hc ⊢
   rcases hc with hc | hc | hc
   ·exact .inl hc
   ·refine Oz.z fun ζ1 η1=>?_
    obtain⟨q,hq,rfl⟩:=Oz.g8.mp hc
    obtain⟨v,o,e1,e2⟩:=t.cel q hq
    refine η1 ?_
    exact .inr (.inr (.inl (Oz.g8.mpr ⟨_,ch (Oz.g15 hq) e1,rfl⟩)))
   ·exact .inr (.inr (.inr hc))
end
end Sk
namespace Sk
open PySem PySem.Calls PySem.W PyProof.Rows PySem.Spec
section
variable {prog:Program}{w:World}{A:Around}{E:Value→Shared→Prop}{s:Shared}{K:Frag}{x C D:Addr}{ox:Obj}
theorem H1 {tk:Tok}{Q:Fin→Shared→Prop}(X:K.In s.heap) (I:InstAt s.heap x ox D none) (hf:findObj K D none "__class__" = some (.bind (.builtin "getset_descriptor.__get__") (.builtin "object.__class__"))) (hm:mroIn K D (.type "object")=some true)
  (h:Q (.done (.ret (.ref D))) s):wpAny (model prog w) A (Builtin.«object.__getattribute__» ⟨[.ref x,.str "__class__" tk],[]⟩) Q E s:=by
 refine Oz.z fun ζ η=>?_
 obtain⟨hh,g,d,t,os⟩:=s
 refine η ?_
 have L0:=I.type (M:=model prog w)
 have L1:=looks_find (M:=model prog w) X I hf
 unfold Builtin.«object.__getattribute__»
 refine wpAny_bind (wpAny_pure (wpAny_bind (wpAny_pure (wpAny_bind (L0.at (wpAny_bind (L1.at ?_)))))))
 show wpAny _ _ (Builtin.ObjectAttr.bindTo _ _ _ _) _ _ _
 unfold Builtin.ObjectAttr.bindTo
 refine wpAny_bind (wpAny_holding (wpAny_call ?_))
 exact class_get (s:=⟨hh,g,d,t,os⟩) (od:=none) X I hm (wpAny_pure h)
theorem H4 {nameV:Value}{Q:Unit→Shared→Prop}(X:K.In s.heap) (I:InstAt s.heap x ox D none) (e7:subIn K (.ref D) (.type "BaseException")=some true) (h:Q () s):wpAny (model prog w) A (checkBuiltinCall "BaseException.__getattribute__" ⟨[.ref x,nameV],[]⟩) Q E s:=by
 refine Oz.z fun ζ η=>?_
 obtain⟨hh,g,d,t,os⟩:=s
 refine η ?_
 have L0:=I.type (M:=model prog w)
 have hk:builtinKind "BaseException.__getattribute__" = some .slot:=by decide +kernel
 have hsplit:splitId "BaseException.__getattribute__" = some ("BaseException","__getattribute__"):=by decide +kernel
 have ha:=F.args_bexc_ga (.ref x) nameV
 have LI:Looks (model prog w) hh (isInstance (.ref x) (.type "BaseException")) true:=L0.andThen (looks_subIn X e7)
 simp only [checkBuiltinCall,hk,hsplit]
 refine wpAny_bind (LI.at ?_)
 repeat (first | wp_step)
 exact h
theorem H3 {Q:Option Value→Shared→Prop}(X:K.In s.heap) (I:InstAt s.heap x ox D none) (e:ow K D=true) (h:Q (some (.ref D)) { s with toks:=s.toks+1 }):wpAny (model prog w) A (getAttr? (.ref x) "__class__") Q E s:=by
 unfold ow at e
 simp only [Oz.g5,beq_iff_eq] at e
 refine Oz.z fun ζ η=>?_
 obtain⟨⟨⟨⟨⟨⟨⟨e0,e1⟩,e2⟩,e3⟩,e4⟩,e5⟩,e6⟩,e7⟩:=e
 have hf:findObj K D none "__class__" = some (.bind (.builtin "getset_descriptor.__get__") (.builtin "object.__class__")):=by
  obtain⟨cd,hcd⟩:=Option.isSome_iff_exists.mp e0
  unfold findObj
  rw [hcd,Option.bind_some,e3,Option.bind_some]
  dsimp only
  rw [e4,Option.bind_some]
  dsimp only
  rw [e5,Option.bind_some]
 obtain⟨hh,g,d,t,os⟩:=s
 refine η ?_
 have L0:=I.type (M:=model prog w)
 have L1:=looks_findIn (M:=model prog w) X e1
 have L2:=looks_findIn (M:=model prog w) X e2
 have hx2:(Value.builtin "BaseException.__getattribute__" == Value.builtin "object.__getattribute__")=false:=by decide +kernel
 have f3:=F.excAttr_ValueError.ga.bind (.ref x)
 unfold getAttr? getAttrBy? getAttrBy
 refine wpAny_bind (wpAny_mkText (wpAny_bind (wpAny_attempt (wpAny_holding (wpAny_bind (L0.at (wpAny_bind (L1.at ?_))))))))
 dsimp only
 rw [hx2,Bool.and_false,if_neg Bool.false_ne_true]
 unfold getAttrByItsOwn hookBefore
 refine wpAny_bind (L2.at ?_)
 refine wpAny_bind (wpAny_attempt (wpAny_holding ?_))
 unfold callGetattribute
 rw [Bool.false_and,if_neg Bool.false_ne_true]
 unfold boundAndCalled
 rw [f3]
 refine wpAny_bind (wpAny_pure ?_)
 refine wpAny_call (codeAny_call_builtin F.excAttr_ValueError.ga.plain F.entry_bexc_ga ?_)
 exact H4 X I e7 (H1 (s:=⟨hh,g,d,t+1,os⟩) X I hf e6 (handed_on rfl (wpAny_pure h)))
set_option tactic.hygienic true in
theorem Gg {c:Value}{dep:Int}{tk:Tok}{Q:Fin→Shared→Prop}(X:K.In s.heap) (I:InstAt s.heap x ox D none) (xc:ow K D=true) (e:kitOne K (.ref D) c=some false) (h:Q (.done (.ret (.bool false))) { s with toks:=s.toks+1 }) :
  wpAny (model prog w) A (Builtin.«isinstance.nested» ⟨[.ref x,c,.int dep tk],[]⟩) Q E s:=by
 have hisD:Looks (model prog w) s.heap (isType (.ref D)) true:=by
  have e0:(clsIn K D).isSome=true:=by
   unfold ow at xc
   simp only [Oz.g5] at xc
   exact xc.1.1.1.1.1.1.1
  unfold clsIn at e0
  split at e0
  ·rename_i c' d' cd' sl' ho
   intro A' Q' E' s' k q
   unfold isType loadHead
   exact wpAny_bind (wpAny_loadPart (k _ _ (X _ _ ho)) (wpAny_pure q))
  ·cases e0
 refine Oz.z fun ζ η=>?_
 obtain⟨h0,g,d,tt,os⟩:=s
 refine η ?_
 have L0:=I.type (M:=model prog w)
 unfold kitOne at e
 have q:¬ (Value.ref D == c)=true:=fun q=>by rw [if_pos q] at e; cases e
 rw [if_neg q] at e
 obtain⟨hty,his,hsub⟩:=kit_cls (M:=model prog w) X e
 have LI:Looks (model prog w) h0 (isInstance (.ref x) c) false:=L0.andThen hsub
 unfold Builtin.«isinstance.nested»
 refine wpAny_bind (L0.at ?_)
 rw [if_neg q]
 refine wpAny_bind (hty.at ?_)
 rw [if_pos (by decide)]
 k_delta "plainIsInstance"
 refine wpAny_bind (wpAny_bind (his.at ?_))
 simp only [Bool.not_true,Bool.false_eq_true,if_false]
 refine wpAny_bind (LI.at ?_)
 simp only [Bool.false_eq_true,if_false]
 refine wpAny_bind (H3 X I xc ?_)
 refine wpAny_bind (hisD.at ?_)
 simp only [Bool.not_true,Bool.false_eq_true,if_false]
 refine wpAny_bind (wpAny_rule ?_)
 refine hsub.at ?_
 first
  |exact wpAny_pure h
  |exact wpAny_pure (wpAny_pure h)
  |exact wpAny_bind (wpAny_pure (wpAny_pure h))
theorem H5 {c:Value}{Q:Value→Shared→Prop}(X:K.In s.heap) (I:InstAt s.heap x ox D none) (xc:ow K D=true) (e:kitOne K (.ref D) c=some false) (h:Q (.bool false) { s with toks:=s.toks+1 }):wpAny (model prog w) A (call (.builtin "isinstance") [.ref x,c]) Q E s :=
 call_isinstance (S:=fun ζ R s=>(K.In s.heap∧InstAt s.heap x ox D none)∧R (.ok (.ret (.bool false))) { s with toks:=s.toks+1 })
  (fun ζ ζ ζ ζ ζ hs=>isinstance_outer (Gg hs.1.1 hs.1.2 xc e hs.2) (by intro q; cases q)) ⟨⟨X,I⟩,h⟩
end
section
variable {Γ:Cx}{cl:CallO}{W n:Nat}{f:Fm}{hid:List (Addr×Obj)}{ρ ρ' : List Addr}{l:LOC}{h:HP}{s:Shared}{E:Value→Shared→Prop}{B:Heap}{c:Nat}{a C L:Addr}
theorem At.sep (t:At Γ f hid ρ l h s){b:Addr}(hb:b∈ρ++(f.cells.map (·.2)++hid.map (·.1))):b∉f.frA:=fun hm=>by
 have nd:=t.nodup
 unfold Fm.adr at nd
 have e:ρ++(f.cells.map (·.2)++(hid.map (·.1)++(f.fr0.map (·.1)++[f.env.locals])))=(ρ++(f.cells.map (·.2)++hid.map (·.1)))++(f.fr0.map (·.1)++[f.env.locals]):=by simp [Oz.g19]
 rw [e,Oz.g17] at nd
 refine nd.2.2 b hb b ?_ rfl
 rcases Oz.g6.mp hm with rfl | hm
 ·simp
 ·exact Oz.g18 _ hm
theorem Hr {b:Addr}(hb:b∈f.frA):b∈f.adr hid ρ:=by
 unfold Fm.adr
 simp only [Oz.g1]
 rcases Oz.g6.mp hb with rfl | hm
 ·exact .inr (.inr (.inr (.inr (.head _))))
 ·exact .inr (.inr (.inr (.inl hm)))
theorem Dc (cx:CxOk Γ) (cf:CxFn Γ) (ce:CxEx Γ){m:Str}:iu Γ (Rzz Γ) cl W n (.raise c m):=by
 intro f st ok hm hid ρ l h s Q E t p
 replace hm:=Hq hm
 refine Oz.z fun ζ η=>?_
 obtain⟨x,px,i,q,pc,pos,rfl,hm⟩:=hm
 refine η ?_
 simp only [Oz.g5,beq_iff_eq,bne_iff_ne] at hm
 refine Oz.z fun ζ1 η1=>?_
 obtain⟨⟨⟨⟨hex,hcm⟩,hc0⟩,hx⟩,hg⟩:=hm
 obtain⟨C,hC,hv⟩:=cf.clsG c _ hx
 obtain⟨nm,qn,N,bs,bm,hdct,sn,sub,ab,col,dd,k0,k1,k2,k3,k5,hk,hN,hT⟩:=H0 (ce.made c C hc0 hC)
 obtain⟨mN,hNs,hni⟩:=yi cx.X hN
 refine η1 ?_
 have T:=B4 cx.X hT
 refine wpAny_Raise_call_subT (C:=C) (nm:=nm) (q:=qn) (N:=N) (bs:=bs) (bm:=bm) (hdct:=hdct) (sn:=sn) (sub:=sub) (ab:=ab) (col:=col) (dd:=dd) (k0:=k0) (k1:=k1) (k2:=k2) (k3:=k3) (k5:=k5)
  PySem.F.excBase_ValueError (mN:=mN) (T.hasType PySem.F.excBase_ValueError.hasBase) (fg hcm) rfl hni (t.glob ok.toFmOk cx hg hv ⟨rfl,?_⟩)
 refine cu rfl (spliced_cons (Constant_str (k:=i) (pos:=q) (spliced_nil ?_)))
 have t1:=t.toks (s.toks+1)
 refine⟨rfl,(by decide:(1:Nat)≤sizeLine),ib t1 cx _ _ hk,hNs.keeps t1.keepBase,T.keeps t1.keepBase,fun h' e hx=>?_⟩
 refine Oz.z fun ζ2 η2=>?_
 obtain⟨L,hL⟩:=ok.toFmOk.frame
 obtain⟨tt,he,hnt,_⟩:=hx.there
 refine η2 ?_
 have old:∀ b o,s.heap.get? b=some o→h'.get? b=some o:=hx.keeps
 refine p _ ρ _ (Oz.g7 _) ⟨e,C,hideAll s.heap f.frA,L,rfl,⟨⟨hex,hc0⟩,hC,t1.grow (by rw [t1.sh]) old,⟨fun b o q=>?_,fun b o q=>old b o (of_hideAll _ q),fun b hb=>hideAll_none _ hb,fun b hb o q=>?_⟩,?_⟩,hL,.inl ⟨_,_,he,⟨rfl,rfl⟩,rfl,rfl⟩⟩
 ·exact hideAll_get _ (t.keepBase b o q) fun hm=>by rw [t.fresh b (Hr hm)] at q; cases q
 ·have hth:∃ o',s.heap.get? b=some o' := t.there b (by
   unfold Fm.adr
   simp only [Oz.g1] at hb ⊢
   rcases hb with hb | hb | hb
   ·exact .inl hb
   ·exact .inr (.inl hb)
   ·exact .inr (.inr (.inl hb)))
  obtain⟨o',e'⟩:=hth
  have q2:=old b o' e'
  have q:h'.get? b=some o:=q
  rw [q] at q2; cases q2
  exact hideAll_get _ e' (t.sep hb)
 ·cases q:(hideAll s.heap f.frA).get? e with
  | none=>rfl
  | some o =>
   have:=of_hideAll _ q
   have hn:s.heap.get? e=none:=hx.new
   rw [hn] at this; cases this
noncomputable def Fm.marked (f:Fm) (a:Addr):Fm := { f with A:=f.A.mark (some (.ref a)) }
theorem At.marked (t:At Γ f hid ρ l h s):At Γ (f.marked a) hid ρ l h s:=⟨t.sh,t.frm,t.cel,t.len,t.obj,t.nodup,t.fresh,t.hidden,t.below⟩
theorem At.unmarked (t:At Γ (f.marked a) hid ρ l h s):At Γ f hid ρ l h s:=⟨t.sh,t.frm,t.cel,t.len,t.obj,t.nodup,t.fresh,t.hidden,t.below⟩
theorem FmK.marked (ok:FmK n f):FmK n (f.marked a):=⟨⟨ok.kind,ok.glob,ok.blt,ok.nd,ok.acc,ok.cel,ok.cnd,ok.frs,ok.fnf⟩,ok.room,ok.units⟩
theorem At.unbind {M:Model}{A:Around}(t:At Γ f hid ρ l h s) (ok:FmOk f){k:Nat}{y:Str}{pos:Pos}{Q:Unit→Shared→Prop}(hk:f.slots[k]?=some (some y)) (hy:f.env.kindOf y=some .local)
  (hq:∀ s',At Γ f hid ρ (l.set k none) h s'→Q () s'):wpAny M A (do bindName f.env y .none; unbindBehindTheSuite f.env y pos) Q E s:=by
 obtain⟨m,F,hl,hm⟩:=t.frm
 refine wpAny_nameGoes_keeps hy F.ns (by rw [ok.kind]; rfl) fun h' v hn hs=>hq _ ?_
 have rest:∀ d,d∈f.adr' hid ρ→h'.get? d=s.heap.get? d:=fun d hd=>hs.2 d (t.neL hd)
 refine⟨by rw [t.sh],⟨_,F.set hn hs,by simpa using hl,fun j z w a b=>?_⟩,fun p hp=>?_,t.len,fun i ao c a b=>?_,t.nodup,t.fresh,fun p hp=>?_,fun p hp=>?_⟩
 ·by_cases hj:j=k
  ·subst hj
   have hkl:j<l.length:=by rw [hl]; exact(Oz.g4.mp hk).1
   rw [List.getElem?_set_self hkl] at b
   cases b
  ·rw [Oz.g21 (Ne.symm hj)] at b
   obtain⟨w',h1,h2⟩:=hm j z w a b
   refine⟨w',h1,h2.imp (fun⟨h3,h4⟩=>⟨h3,?_⟩) fun⟨h3,d,h4,od,h5,h6⟩=>⟨h3,d,h4,od,?_,h6⟩⟩
   ·have:z≠y:=fun e=>hj (ok.nd j k z a (e ▸ hk))
    simp [this,h4]
   ·refine(rest d ?_).trans h5
    simp only [Fm.adr',Oz.g1,Oz.g8]
    exact .inr (.inl ⟨_,bk h4,rfl⟩)
 ·obtain⟨w,od,h5,h6⟩:=t.cel p hp
  refine⟨w,od,(rest _ ?_).trans h5,h6⟩
  simp only [Fm.adr',Oz.g1]
  exact .inr (.inl (Oz.g15 hp))
 ·obtain⟨o,h1,h2⟩:=t.obj i ao c a b
  exact⟨o,(rest _ (Oz.g18 _ (Oz.g16 b))).trans h1,h2⟩
 ·refine(rest _ ?_).trans (t.hidden p hp)
  simp only [Fm.adr',Oz.g1]
  exact .inr (.inr (.inl (Oz.g15 hp)))
 ·obtain⟨sl,e⟩:=t.below p hp
  refine⟨sl,(rest _ ?_).trans e⟩
  simp only [Fm.adr',Oz.g1]
  exact .inr (.inr (.inr (Oz.g15 hp)))
theorem RzS.adopt (r:RzS Γ f hid ρ l h c a C B s) (ok:FmOk f){fl:Value}(st:Tr B s.heap a C fl):At Γ f hid (ρ++[a]) l (h++[.exc c]) s:=by
 refine Oz.z fun ζ η=>?_
 obtain⟨oe,vs,T,oT,ts,he,⟨hc,hdi⟩,hd,_⟩:=st
 refine η ?_
 have hb:Γ.base.get? a=none:=by
  cases q:Γ.base.get? a with
  | none=>rfl
  | some o=>have:=r.cov.base _ _ q; rw [r.off] at this; cases this
 refine r.at_.adopt he (fun d hm e=>?_) hb ⟨C,r.exc,r.cls,hc,by unfold notCls; rw [hd],hdi⟩
 subst e
 by_cases hf:d∈f.frA
 ·rcases Oz.g6.mp hf with e | hm
  ·rw [e] at he; exact r.at_.locNf he vs hd
  ·refine Oz.z fun ζ1 η1=>?_
   obtain⟨q,hq,rfl⟩:=Oz.g8.mp hm
   obtain⟨sl,e⟩:=r.at_.below q hq
   refine η1 ?_
   rw [he] at e; cases e
   exact ok.fnf q hq vs hd
 ·have:=r.cov.has d (by
   unfold Fm.adr at hm
   simp only [Oz.g1] at hm ⊢
   rcases hm with hm | hm | hm | hm | hm
   ·exact .inl hm
   ·exact .inr (.inl hm)
   ·exact .inr (.inr hm)
   ·exact absurd (List.mem_cons_of_mem _ hm) hf
   ·rw [Oz.g9.mp hm] at hf; exact absurd (.head _) hf) _ he
  rw [r.off] at this; cases this
theorem Kg {tx:Tx}{sc:Sc}{as_:Option Nat}{b:CS}{r:CHs}{hd:List ExceptHandler}(hm:mtH tx sc (.cons c as_ b r) hd=true):Oz.E7 fun x px nm b₀ body pos rest=>hd=.ExceptHandler (some (.Name x px)) nm (b₀::body) pos::rest ∧
  (c≠0∧tx.clsName c=some x∧glb sc x=true)∧(as_.elim nm.isNone fun k=>nm.any fun x=>sc.slots[k]? == some (some x)&&sc.names.lookup x == some .local)=true∧mtB tx sc b (b₀::body)=true∧mtH tx sc r rest=true:=by
 cases hd with
 | nil=>exact ba hm
 | cons k rest =>
  refine Oz.z fun ζ η=>?_
  obtain⟨⟨x,px,nm,bd,pos⟩,h1,h2⟩:=any_some (show((hnS k).any _)=true from hm)
  refine η ?_
  simp only [Oz.g5,beq_iff_eq,bne_iff_ne] at h2
  refine Oz.z fun ζ1 η1=>?_
  obtain⟨⟨⟨⟨⟨⟨q0,q1⟩,q2⟩,q3⟩,q4⟩,q5⟩,q6⟩:=h2
  obtain⟨t,nm',bd',pos'⟩:=k
  obtain⟨t',e1,h1⟩:=Oz.g22.mp (show(t.bind _)=_ from h1)
  obtain⟨y,e2,h1⟩:=Oz.g11.mp h1
  refine η1 ?_
  cases h1
  cases bd with
  | nil=>exact ba q4
  | cons b₀ body=>exact⟨_,_,_,b₀,body,_,rest,by rw [e1,jz e2],⟨q0,q1,q2⟩,q3,q5,q6⟩
set_option tactic.hygienic true in
theorem bn.marked {Q Q' : Flow→Shared→Prop}{E' : Value→Shared→Prop}{r:RS}(p:bn Γ (Rzz Γ) f hid ρ Q E r.noexc) (hq:∀ fl s,Q fl s→Q' fl s):bn Γ (Rzz Γ) (f.marked a) hid ρ Q' E' r:=by
 cases r with
 | next l h=>exact fun ρ' s' pre t=>hq _ _ (p ρ' s' pre t.unmarked)
 | ret v h=>exact fun v' l' ρ' s' pre t vr=>hq _ _ (p v' l' ρ' s' pre t.unmarked vr)
 | exc c l h=>exact p.elim
 | err=>exact p
theorem Ga {G:Gl}{d:Nat}{b:CS}{r:CHs}(hs:G.sub c d=true):hand G cl W (.cons d Option.none b r) c l h=(exec G cl W b l h).noexc:=if_pos hs
set_option tactic.hygienic true in
theorem F9 {G:Gl}{d k:Nat}{b:CS}{r:CHs}(hs:G.sub c d=true):hand G cl W (.cons d (some k) b r) c l h=((exec G cl W b (l.set k (some (.ref h.length))) (h++[.exc c])).noexc).thn fun l' h'=>.next (l'.set k Option.none) h' := if_pos hs
theorem Gb {G:Gl}{d:Nat}{as_:Option Nat}{b:CS}{r:CHs}(hs:¬ G.sub c d=true):hand G cl W (.cons d as_ b r) c l h=hand G cl W r c l h:=if_neg hs
set_option tactic.hygienic true in
theorem zz (cx:CxOk Γ) (cf:CxFn Γ) (ce:CxEx Γ) (ok:FmK n f){Q:Flow→Shared→Prop}:∀ (hs:CHs) (hd:List ExceptHandler) (s:Shared),wk Γ (Rzz Γ) cl W n hs→mtH Γ.tx ⟨f.env.scope.names,f.slots,false⟩ hs hd=true →
  RzS Γ f hid ρ l h c a C B s→Tr B s.heap a C .none→bn Γ (Rzz Γ) f hid ρ Q E (hand Γ.G cl W hs c l h)→wpAny (model Γ.prog Γ.w) f.A (handleBy (.ref a) f.env hd) Q E s
 | .nil,hd,s,_,_,_,_,p=>p.elim
 | .cons d as_ b rest,hd,s,hh,hm,r,st,p=>by
  refine Oz.z fun ζ η=>?_
  obtain⟨x,px,nm,b₀,body,pos,rst,rfl,⟨hd0,hx,hg⟩,ha,m1,m2⟩:=Kg hm
  obtain⟨D,hD,hv⟩:=cf.clsG d _ hx
  refine η ?_
  refine wpAny_handleBy_cons (codeAny_handlers_test ?_) (by intro q; cases q)
  have okM:FmK n (f.marked a):=ok.marked
  refine At.glob (f:=f.marked a) r.at_.marked okM.toFmOk cx hg hv ?_
  refine Oz.z fun ζ1 η1=>?_
  obtain⟨oe,vs,T,oT,ts,he,⟨hc,hdi⟩,hdd,_⟩:=id st
  refine η1 ?_
  have LT:Looks (model Γ.prog Γ.w) s.heap (typeOf (.ref a)) (.ref C):=hc ▸ (Looks.ld he).andThen .now
  refine(exm_one (ib r.at_ cx) LT (ce.hand c d C D r.exc.2 hd0 r.cls hD)).here ?_
  by_cases hsub:Γ.G.sub c d=true
  ·rw [hsub]
   cases as_ with
   | none =>
    rw [Ga hsub] at p
    cases nm with
    | some _=>exact ba ha
    | none =>
     refine codeAny_handlers_suite (rp ok.toFmOk r st fun s1 r1 st1=>?_)
     exact hh.1 (f.marked a) _ okM m1 hid ρ l h s1 _ _ r1.at_.marked (bn.marked p fun ζ ζ q=>q)
   | some k =>
    rw [F9 hsub] at p
    cases nm with
    | none=>exact ba ha
    | some y =>
     have ha:(f.slots[k]? == some (some y)&&f.env.scope.names.lookup y == some .local)=true:=ha
     simp only [Oz.g5,beq_iff_eq] at ha
     refine codeAny_handlers_suite_as (rp ok.toFmOk r st fun s1 r1 st1=>?_)
     have t2:=r1.adopt ok.toFmOk st1
     have pre0:ρ<+:ρ++[a]:=Oz.g28 _ _
     refine At.store (f:=f.marked a) (v:=.ref h.length) t2.marked okM.toFmOk ha.1 ⟨a,by rw [← r1.at_.len]; simp,rfl⟩ fun s2 t3 ζ=>?_
     refine hh.1 (f.marked a) _ okM m1 hid (ρ++[a]) _ _ s2 _ _ t3 ?_
     cases q:exec Γ.G cl W b (l.set k (some (.ref h.length))) (h++[.exc c]) with
     | next l' h'=>rw [q] at p; exact fun ρ' s' pre t=>t.unmarked.unbind ok.toFmOk ha.1 ha.2 fun s'' t''=>p ρ' s'' (pre0.trans pre) t''
     | ret v h'=>rw [q] at p; exact fun v' l' ρ' s' pre t vr=>t.unmarked.unbind ok.toFmOk ha.1 ha.2 fun s'' t''=>p v' _ ρ' s'' (pre0.trans pre) t'' vr
     | exc _ _ _=>rw [q] at p; exact p.elim
     | err=>rw [q] at p; exact p.elim
  ·rw [Bool.eq_false_iff.mpr hsub]
   rw [Gb hsub] at p
   exact zz cx cf ce ok rest rst s hh.2 m2 r st p
set_option tactic.hygienic true in
theorem Ju (cx:CxOk Γ) (cf:CxFn Γ) (ce:CxEx Γ){b:CS}{hs:CHs}(hb:kg Γ (Rzz Γ) cl W n b) (hh:wk Γ (Rzz Γ) cl W n hs):iu Γ (Rzz Γ) cl W n (.tr b hs):=by
 intro f st ok hm hid ρ l h s Q E t p
 replace hm:=N3 hm
 refine Oz.z fun ζ η=>?_
 obtain⟨body,hd,pos,rfl,hm⟩:=hm
 refine η ?_
 simp only [Oz.g5] at hm
 refine Oz.z fun ζ1 η1=>?_
 obtain⟨⟨⟨⟨hex,hcm⟩,m1⟩,hne⟩,m2⟩:=hm
 refine η1 ?_
 cases hd with
 | nil=>exact ba hne
 | cons h₀ hr =>
  refine wpAny_Try_except (hb f body ok m1 hid ρ l h s _ _ t ?_)
  have p:bn Γ (Rzz Γ) f hid ρ Q E (match exec Γ.G cl W b l h with | .exc c l' h'=>hand Γ.G cl W hs c l' h' | r=>r):=p
  cases r:exec Γ.G cl W b l h with
  | next l' h'=>rw [r] at p; exact fun ρ' s' pre t'=>wpAny_execs_nil (p _ _ pre t')
  | ret v h'=>rw [r] at p; exact p
  | err=>rw [r] at p; exact p
  | exc c l' h' =>
   rw [r] at p
   rintro e ρ' s' pre ⟨a,C,B,L,rfl,rz,hL,st⟩
   refine wq rfl ok.toFmOk rz hL st fun s1 r1 st1=>?_
   refine rp (fr:=none) ok.toFmOk r1 st1 fun s2 r2 st2=>?_
   exact zz cx cf ce ok hs (h₀::hr) s2 hh m2 r2 st2 (bn.ext pre p)
theorem Kk {K:Frag}{x t c:Value}{H:Heap→Prop}(ty:∀ (M:Model) (h:Heap),H h→Looks M h (typeOf x) t) (e:kitOne K t c=some true):Answers (fun s=>K.In s.heap∧H s.heap) x c true:=by
 intro dep tk prog w A R s hs
 refine Oz.z fun ζ η=>?_
 obtain⟨h0,g,d,tt,os⟩:=s
 obtain⟨⟨X,p⟩,hq⟩:=hs
 refine η ?_
 have LT:=ty (model prog w) h0 p
 unfold kitOne at e
 unfold Builtin.«isinstance.nested»
 refine wpAny_bind (LT.at ?_)
 by_cases q:(t == c)=true
 ·rw [if_pos q]
  first
   | ((repeat lk); exact hq tt)
   |exact wpAny_bind (wpAny_rule (hq tt))
   |exact wpAny_bind (wpAny_rule (wpAny_pure (hq tt)))
 ·rw [if_neg q] at e
  rw [if_neg q]
  obtain⟨hty,his,hsub⟩:=kit_cls (M:=model prog w) X e
  have LI:Looks (model prog w) h0 (isInstance x c) true:=LT.andThen hsub
  refine wpAny_bind (hty.at ?_)
  rw [if_pos (by decide)]
  k_delta "plainIsInstance"
  refine wpAny_bind (wpAny_bind (his.at ?_))
  simp only [Bool.not_true,Bool.false_eq_true,if_false]
  refine wpAny_bind (LI.at ?_)
  first
   |exact wpAny_pure (wpAny_pure (hq tt))
   | (simp only [if_true]; first | exact wpAny_pure (wpAny_pure (hq tt)) | exact wpAny_pure (hq tt) | exact wpAny_bind (wpAny_pure (wpAny_pure (hq tt))))
noncomputable def D3 (a C:Addr) (h:Heap):Prop := ∃ o,h.get? a=some o∧o.cls=.ref C
theorem Ij {a C:Addr}(M:Model) (h:Heap) (p:D3 a C h):Looks M h (typeOf (.ref a)) (.ref C):=by
 obtain⟨o,h1,h2⟩:=p
 exact h2 ▸ (Looks.ld h1).andThen .now
theorem A1 {prog:Program}{w:World}{A:Around}{K:Frag}{a:Addr}{c:Value}{Q:Value→Shared→Prop}(X:K.In s.heap) (p:D3 a C s.heap) (e:kitOne K (.ref C) c=some true) (k:∀ tk,Q (.bool true) { s with toks:=tk }):wpAny (model prog w) A (call (.builtin "isinstance") [.ref a,c]) Q E s :=
 call_isinstance (S:=fun ζ R s=>(K.In s.heap∧D3 a C s.heap)∧∀ tk,R (.ok (.ret (.bool true))) { s with toks:=tk }) (fun prog w A R s hs=>isinstance_outer (Kk (Ij (C:=C)) e 0 _ prog w A R s hs) (by intro q; cases q)) ⟨⟨X,p⟩,k⟩
theorem Oy (cx:CxOk Γ) (ce:CxEx Γ):xu Γ:=by
 intro f hid ρ l h s Q E i c ty tv ad t hi had htv p
 refine Oz.z fun ζ η=>?_
 obtain⟨o,g,C,⟨hx,hc0⟩,hC,hcl,hnc,hdi⟩:=t.obj i _ ad hi had
 refine η ?_
 cases ty with
 | valueError =>
  cases htv
  replace p:aw ((h[i]?).elim .err (sg Γ.G.sub h _)) _ _:=j0 p
  rw [hi] at p
  exact A1 (ib t cx) ⟨o,g,hcl⟩ (ce.isiV c C hc0 hC) fun tk=>p _ _ _ (Oz.g7 _) (t.toks tk) rfl
 | own d =>
  obtain⟨D,hD,rfl⟩:=Oz.g11.mp (show(Γ.tx.clsAddr d).map Value.ref=some tv from htv)
  replace p:aw ((h[i]?).elim .err (sg Γ.G.sub h _)) _ _:=j0 p
  rw [hi] at p
  replace p:aw (R.ok (AV.bool (Γ.G.sub c d)) h) (OKQ Γ f hid ρ l Q) _:=p
  have e:=ce.isi c d C D hc0 hC hD
  cases hs:Γ.G.sub c d with
  | false =>
   rw [hs] at e p
   exact H5 (ib t cx) ⟨g,hcl,hnc,by rw [hdi]; trivial⟩ (ce.cls c C hc0 hC) e (p _ _ _ (Oz.g7 _) (t.toks _) rfl)
  | true =>
   rw [hs] at e p
   exact A1 (ib t cx) ⟨o,g,hcl⟩ e fun tk=>p _ _ _ (Oz.g7 _) (t.toks tk) rfl
 | _ =>
  replace p:aw ((h[i]?).elim .err (sg Γ.G.sub h _)) _ _:=j0 p
  rw [hi] at p; exact p.elim
end
noncomputable def TxD.okExc (D:TxD) (K:Frag):Bool:=(List.range D.cls.length).all fun c=>c == 0||(D.cls[c]?).any fun p=>(zl K p.2&&ow K p.2)&&kitOne K (.ref p.2) (.type "ValueError") == some true &&
 (List.range D.cls.length).all fun d=>(D.cls[d]?).any fun q=>kitOne K (.ref p.2) (.ref q.2) == some (D.sub c d)&&(d == 0||exmOne K (.ref p.2) (.ref q.2) == some (D.sub c d))
section
variable {D:TxD}{prog:Program}{w:World}{s₁:Shared}{K:Frag}{mg mb:Str→Option Value}{w2:Addr}{vs:List Value}{ns:List Int}
theorem nr (h:D.okExc K=true){c:Nat}{C:Addr}(hc:c≠0) (hC:D.tx.clsAddr c=some C):((zl K C=true∧ow K C=true)∧kitOne K (.ref C) (.type "ValueError")=some true) ∧
  ∀ d D',D.tx.clsAddr d=some D'→kitOne K (.ref C) (.ref D')=some (D.sub c d)∧(d≠0→exmOne K (.ref C) (.ref D')=some (D.sub c d)):=by
 obtain⟨p,e1,e2⟩:=Oz.g11.mp (show(D.cls[c]?).map (·.2)=some C from hC)
 have h1:=List.all_eq_true.mp h c (List.mem_range.mpr (Oz.g4.mp e1).1)
 rw [show(c == 0)=false from by simpa using hc,Bool.false_or,e1] at h1
 subst e2
 simp only [Option.any_some,Oz.g5,beq_iff_eq,List.all_eq_true] at h1
 obtain⟨⟨a1,a2⟩,h2⟩:=h1
 refine⟨⟨a1,a2⟩,fun d D' hD=>?_⟩
 obtain⟨q,f1,f2⟩:=Oz.g11.mp (show(D.cls[d]?).map (·.2)=some D' from hD)
 have h3:=h2 d (List.mem_range.mpr (Oz.g4.mp f1).1)
 rw [f1] at h3
 subst f2
 simp only [Option.any_some,Oz.g5,beq_iff_eq,Bool.or_eq_true] at h3
 exact⟨h3.1,fun hd=>h3.2.resolve_left hd⟩
theorem Kx (h:D.okExc K=true):CxEx (ia D prog w s₁ K mg mb w2) where
 made:=fun c C hc hC=>(nr h hc hC).1.1.1
 cls:=fun c C hc hC=>(nr h hc hC).1.1.2
 hand:=fun c d C D' hc hd hC hD=>((nr h hc hC).2 d D' hD).2 hd
 isiV:=fun c C hc hC=>(nr h hc hC).1.2
 isi:=fun c d C D' hc hC hD=>((nr h hc hC).2 d D' hD).1
theorem law_loud (W n:Nat) (code:CS) (slots:List Str) (x:LawAt D prog w s₁ K mg mb w2 vs ns) (xe:D.okExc K=true){A:Around}{fa:Addr}{o:Obj}{fd:FuncData}{body:List Stmt}
  (ho:s₁.heap.get? fa=some o) (hd:o.data=.func fd) (hcd:s₁.heap.CodeRec fd.code fd.qualname) (bd:fd.body=.stmts body) (clo:fd.closure=[]) (glob:fd.globals=mainGlobals)
  (blt:fd.builtins=builtinsNs) (dfl:fd.defaults=.none) (ck:uz D.tx fd.params fd.scope body slots code=true) (hh:A.handled=none) (hfr:A.frames=some []) (hroom:A.depth+2*n+3<recursionLimit) (hunits:A.units+16*n+20<cLine)
  (p:aw ((⟨1,slots.length,code⟩:Fn).run D.gl (ae D.gl W n) W [.ref 0] [.const (ns.map .int)]) (fun v h'=>v=.bool true∧∃ us,h'[0]?=some (.const us)) (fun ζ ζ=>False)) :
  codeAny (model prog w) A (.call (.ref fa) ⟨[.ref w2],[]⟩) (fun r s'=>r=.ok (.ret (.bool true))∧(∀ b o,s₁.heap.get? b=some o→s'.heap.get? b=some o)∧s'.os=s₁.os∧s'.gens=s₁.gens) s₁:=by
 have ce:CxEx (ia D prog w s₁ K mg mb w2):=Kx xe
 have ix:xu (ia D prog w s₁ K mg mb w2):=Oy x.cxOk ce
 have ex:∀ cl n,jj (ia D prog w s₁ K mg mb w2) (Rzz (ia D prog w s₁ K mg mb w2)) cl n→ExcOk (ia D prog w s₁ K mg mb w2) (Rzz (ia D prog w s₁ K mg mb w2)) cl W n:=fun cl n ζ=>⟨fun c m=>Dc x.cxOk x.cxFn ce,fun b hs hb hh=>Ju x.cxOk x.cxFn ce hb hh⟩
 have ih:=yd (W:=W) x.cxOk x.cxFn ix x.txFn Ew Hg ex n
 have al:jj (ia D prog w s₁ K mg mb w2) (Rzz (ia D prog w s₁ K mg mb w2)) (ae D.gl W n) n:=⟨cr x.cxOk x.cxFn ix ih,simEs x.cxOk x.cxFn ix ih⟩
 exact Jn x (fun b=>(f6 x.cxOk x.cxFn Ew al (ex _ n al) b).1) ho hd hcd bd clo glob blt dfl ck hh hfr hroom hunits p
end
end Sk
namespace Sk
section
variable {G:Gl}{cl:CallO}{W:Nat}{l l1:LOC}{h h1 h2:HP}
set_option tactic.hygienic true in
theorem af {a b:CS}{r:RS}(ha:exec G cl W a l h=.next l1 h1) (hb:exec G cl W b l1 h1=r):exec G cl W (.seq a b) l h=r:=by
 show(exec G cl W a l h).thn _=r
 rw [ha]; exact hb
theorem av {a b:CS}{v:AV}(ha:exec G cl W a l h=.ret v h1):exec G cl W (.seq a b) l h=.ret v h1:=by
 show(exec G cl W a l h).thn _=_
 rw [ha]; rfl
theorem de {a b:CS}{c:Nat}(ha:exec G cl W a l h=.exc c l1 h1):exec G cl W (.seq a b) l h=.exc c l1 h1:=by
 show(exec G cl W a l h).thn _=_
 rw [ha]; rfl
set_option tactic.hygienic true in
theorem ah:exec G cl W .skip l h=.next l h:=rfl
set_option tactic.hygienic true in
theorem am {k:Nat}{e:CE}{v:AV}(he:ev G cl e l h=.ok v h1):exec G cl W (.asg k e) l h=.next (l.set k (some v)) h1:=by
 show(ev G cl e l h).thn l _=_
 rw [he]; rfl
set_option tactic.hygienic true in
theorem ca {e:CE}{v:AV}(he:ev G cl e l h=.ok v h1):exec G cl W (.ex e) l h=.next l h1:=by
 show(ev G cl e l h).thn l _=_
 rw [he]; rfl
theorem bi {e:CE}{v:AV}(he:ev G cl e l h=.ok v h1):exec G cl W (.ret e) l h=.ret v h1:=by
 show(ev G cl e l h).thn l _=_
 rw [he]; rfl
theorem be {t:CE}{a b:CS}{r:RS}(ht:ev G cl t l h=.ok (.bool true) h1) (ha:exec G cl W a l h1=r):exec G cl W (.ite t a b) l h=r:=by
 show(ev G cl t l h).thn l _=_
 rw [ht]; exact ha
theorem ap {t:CE}{a b:CS}{r:RS}(ht:ev G cl t l h=.ok (.bool false) h1) (hb:exec G cl W b l h1=r):exec G cl W (.ite t a b) l h=r:=by
 show(ev G cl t l h).thn l _=_
 rw [ht]; exact hb
set_option tactic.hygienic true in
theorem di {g:Grd}{step:AV→Nat→LOC→HP→RS}(I:Nat→LOC→HP→Prop):∀ (items:List AV) (k:Nat) (l:LOC) (h:HP),I k l h →
  (∀ (j:Nat) v l h,items[j]?=some v→I (k+j) l h→okG g h=true∧Oz.E2 fun l' h'=>step v (k+j) l h=.next l' h'∧I (k+j+1) l' h')→(∀ l h,I (k+items.length) l h→okG g h=true) →
  Oz.E2 fun l' h'=>du g step items k l h=.next l' h'∧I (k+items.length) l' h'
 | [],k,l,h,h0,_,he=>⟨l,h,if_pos (he l h h0),h0⟩
 | v::r,k,l,h,h0,hs,he=>by
  refine Oz.z fun ζ η=>?_
  obtain⟨hg,l',h',e1,h1⟩:=hs 0 v l h rfl h0
  obtain⟨l'',h'',e2,h2⟩:=di I r (k+1) l' h' h1 (fun j w l h hj hI=>by
   have:=hs (j+1) w l h (by simpa using hj) (by rw [show k+(j+1)=k+1+j by exact Oz.o463]; exact hI)
   rw [show k+(j+1)=k+1+j by exact Oz.o463] at this
   exact this) (fun l h hI=>he l h (by rw [List.length_cons,show k+(r.length+1)=k+1+r.length by exact Oz.o463]; exact hI))
  refine η ?_
  refine⟨l'',h'',?_,by rw [List.length_cons,show k+(r.length+1)=k+1+r.length by exact Oz.o463]; exact h2⟩
  show(if okG g h then (step v k l h).thn fun l' h'=>du g step r (k+1) l' h' else .err)=_
  rw [if_pos hg]
  have e1' : step v k l h=.next l' h' := e1
  rw [e1']
  exact e2
theorem ft {k:Nat}{ik:IK}{es:CEs}{b:CS}{vs items:List AV}{g:Grd}{r:RS}(he:evs G cl es l h=.ok vs h1) (hi:bp ik vs h1=some (items,g))
  (hf:du g (fun v ζ l' h'=>exec G cl W b (l'.set k (some v)) h') items 0 l h1=r):exec G cl W (.for1 k ik es b) l h=r:=by
 show(evs G cl es l h).thn l _=_
 rw [he]
 show(match bp ik vs h1 with | some (items,g)=>du g (fun v ζ l' h'=>exec G cl W b (l'.set k (some v)) h') items 0 l h1 | Option.none=>.err)=r
 rw [hi]; exact hf
theorem bj {f:Nat}{fn:Fn}{args:List AV}{n:Nat}{v:AV}(hf:G.fns f=some fn) (ha:args.length=fn.np) (he:exec G (ae G W n) W fn.code (args.map some++List.replicate (fn.ns - fn.np) Option.none) h=.ret v h1) :
  ae G W (n+1) f args h=.ok v h1:=by
 show(match G.fns f with | some fn=>fn.run G (ae G W n) W args h | Option.none=>.err)=_
 rw [hf]
 show fn.run G (ae G W n) W args h=_
 unfold Fn.run
 rw [if_pos ha,he]
set_option tactic.hygienic true in
theorem s9 {f:Nat}{fn:Fn}{args:List AV}{n:Nat}(hf:G.fns f=some fn) (ha:args.length=fn.np) (he:exec G (ae G W n) W fn.code (args.map some++List.replicate (fn.ns - fn.np) Option.none) h=.next l1 h1) :
  ae G W (n+1) f args h=.ok .none h1:=by
 show(match G.fns f with | some fn=>fn.run G (ae G W n) W args h | Option.none=>.err)=_
 rw [hf]
 show fn.run G (ae G W n) W args h=_
 unfold Fn.run
 rw [if_pos ha,he]
end
noncomputable def sd:CS :=
 (.seq (.ite (.cmp .lt (.loc 1) (.bf .len (.cons (.loc 0) .nil)))
  (.seq (.ret (.item (.loc 0) (.loc 1)))
  .skip)
  .skip)
 (.seq (.ret (.int 0))
 .skip))
noncomputable def jh:CS :=
 (.seq (.asg 2 (.int 1))
 (.seq (.for1 3 .range1 (.cons (.loc 1) .nil)
  (.seq (.asg 2 (.bin .mul (.loc 2) (.loc 0)))
  .skip))
 (.seq (.ret (.loc 2))
 .skip)))
noncomputable def cellOf (ns:List Int) (k:Nat):Int:=(ns[k]?).getD 0
section
variable {G:Gl}{cl:CallO}{W:Nat}{l:LOC}{h h1 h2:HP}{a b:CE}{x y:AV}{r:R AV}
theorem aa {k:Nat}{v:AV}(hk:l[k]?=some (some v)):ev G cl (.loc k) l h=.ok v h:=by
 show(match l[k]? with | some (some v)=>R.ok v h | _=>R.err)=_
 rw [hk]
theorem ai {i:Int}:ev G cl (.int i) l h=.ok (.int i) h:=rfl
theorem aq {o:Op}(ha:ev G cl a l h=.ok x h1) (hb:ev G cl b l h1=.ok y h2) (hc:li o x y h2=r):ev G cl (.bin o a b) l h=r:=by
 show(ev G cl a l h).bind _=r
 rw [ha]
 show(ev G cl b l h1).bind _=r
 rw [hb]; exact hc
theorem lj {i j:Int}(hm:uc i j=true):li .mul (.int i) (.int j) h=.ok (.int (i*j)) h:=if_pos hm
theorem az {o:COp}(ha:ev G cl a l h=.ok x h1) (hb:ev G cl b l h1=.ok y h2) (hc:cj o x y h2=r):ev G cl (.cmp o a b) l h=r:=by
 show(ev G cl a l h).bind _=r
 rw [ha]
 show(ev G cl b l h1).bind _=r
 rw [hb]; exact hc
theorem mr {i j:Int}:cj .lt (.int i) (.int j) h=.ok (.bool (decide (i<j))) h:=rfl
theorem aj:evs G cl .nil l h=.ok [] h:=rfl
theorem ag {es:CEs}{vs:List AV}(ha:ev G cl a l h=.ok x h1) (hb:evs G cl es l h1=.ok vs h2):evs G cl (.cons a es) l h=.ok (x::vs) h2:=by
 show(ev G cl a l h).bind _=_
 rw [ha]
 show(evs G cl es l h1).bind _=_
 rw [hb]; rfl
theorem b7 {f:BF}{e:CE}{v:AV}(he:ev G cl e l h=.ok v h1) (hf:fw f [v] h1=r):ev G cl (.bf f (.cons e .nil)) l h=r:=by
 show(evs G cl (.cons e .nil) l h).bind _=_
 rw [ag he aj]; exact hf
theorem bc (ha:ev G cl a l h=.ok x h1) (hb:ev G cl b l h1=.ok y h2) (hc:dh x y h2=r):ev G cl (.item a b) l h=r:=by
 show(ev G cl a l h).bind _=r
 rw [ha]
 show(ev G cl b l h1).bind _=r
 rw [hb]; exact hc
theorem Fb {k n:Nat}(hk:k<n):place (k:Int) n=some k:=by
 unfold place
 rw [if_neg (show ¬ (k:Int)<0 by exact Oz.o464)]
 show(if 0≤(k:Int)∧(k:Int)<n then some (k:Int).toNat else Option.none)=_
 rw [if_pos ⟨Oz.o205,Oz.o256 hk⟩,Int.toNat_natCast]
theorem wb {q:Nat}{k:Int}{vs:List AV}{v:AV}{ao:AO}(hr:h[q]?=some ao) (hs:Aa ao=some vs) (hv:mw k vs=some v):dh (.ref q) (.int k) h=.ok v h:=by
 show(((h[q]?).bind Aa).bind (mw k)).elim (R.err:R AV) _=_
 rw [hr]
 show((Aa ao).bind (mw k)).elim (R.err:R AV) _=_
 rw [hs]
 show(mw k vs).elim (R.err:R AV) _=_
 rw [hv]; rfl
theorem se {k:Nat}{vs:List AV}{v:AV}(hv:vs[k]?=some v):mw (k:Int) vs=some v:=by
 unfold mw
 rw [Fb (Oz.g4.mp hv).1]; exact hv
theorem u0 {q k:Nat}{vs:List AV}{v:AV}(hr:h[q]?=some (.list vs)∨h[q]?=some (.tup vs)∨h[q]?=some (.const vs)) (hv:vs[k]?=some v):dh (.ref q) (.int (k:Int)) h=.ok v h:=by
 rcases hr with hr | hr | hr
 ·exact wb hr rfl (se hv)
 ·exact wb hr rfl (se hv)
 ·exact wb hr rfl (se hv)
theorem Dl {q n:Nat}{ao:AO}(hr:h[q]?=some ao) (hs:Dm ao=some n):fw .len [.ref q] h=.ok (.int (n:Nat)) h:=by
 show((h[q]?).bind Dm).elim (R.err:R AV) _=_
 rw [hr]
 show(Dm ao).elim (R.err:R AV) _=_
 rw [hs]; rfl
end
section
variable {G:Gl}{W n:Nat}{h:HP}
theorem Mc {i:Nat}{ns:List Int}{k:Nat}(hG:G.fns i=some ⟨2,2,sd⟩) (h0:h[0]?=some (.const (ns.map .int))):ae G W (n+1) i [.ref 0,.int k] h=.ok (.int (cellOf ns k)) h:=by
 refine bj hG rfl ?_
 have ln:fw .len [.ref 0] h=.ok (.int ns.length) h:=by
  rw [Dl h0 rfl,Oz.g13]
 have t:ev G (ae G W n) (.cmp .lt (.loc 1) (.bf .len (.cons (.loc 0) .nil))) [some (.ref 0),some (.int k)] h=.ok (.bool (decide ((k:Int)<ns.length))) h:=az (aa rfl) (b7 (aa rfl) ln) mr
 by_cases hk:k<ns.length
 ·rw [decide_eq_true (Oz.o256 hk)] at t
  have e:ns[k]?=some ns[k]:=Oz.g10 hk
  have:cellOf ns k=ns[k]:=by unfold cellOf; rw [e]; rfl
  rw [this]
  exact av (be t (av (bi (bc (aa rfl) (aa rfl) (u0 (.inr (.inr h0)) (by rw [Oz.g12,e]; rfl))))))
 ·rw [decide_eq_false (Oz.o261 hk)] at t
  have:cellOf ns k=0:=by unfold cellOf; rw [List.getElem?_eq_none (Nat.not_lt.mp hk)]; rfl
  rw [this]
  exact af (ap t ah) (av (bi ai))
theorem Cb {w L:Int}(hG:G.fns 0=some ⟨2,4,jh⟩) (hw:w.natAbs<2^64) (hL:L.natAbs<2^62):ae G W (n+1) 0 [.int w,.int L] h=.ok (.int (w^L.toNat)) h:=by
 refine bj hG rfl ?_
 have loop:=di (g:=Option.none) (step:=fun v ζ l' h'=>exec G (ae G W n) W (.seq (.asg 2 (.bin .mul (.loc 2) (.loc 0))) .skip) (l'.set 3 (some v)) h')
  (fun j l' h'=>∃ t,l'=[some (.int w),some (.int L),some (.int (w^j)),t]∧h'=h) ((List.range L.toNat).map fun(k:Nat)=>AV.int (k:Int)) 0
  [some (.int w),some (.int L),some (.int 1),Option.none] h ⟨Option.none,by rw [Int.pow_zero],rfl⟩ (fun j v l' h' hj ⟨t,hl,hh⟩=>by
   subst hl; subst hh
   refine⟨rfl,_,_,af (am (aq (aa rfl) (aa rfl) (lj (decide_eq_true (.inr hw))))) ah,some v,?_,rfl⟩
   rw [Int.pow_succ]; rfl) (fun ζ ζ ζ=>rfl)
 refine Oz.z fun ζ η=>?_
 obtain⟨l',h',e,t,hl,hh⟩:=loop
 refine η ?_
 rw [Oz.g13,List.length_range,Nat.zero_add] at hl
 subst hl; subst hh
 exact af (am ai) (af (ft (ag (aa rfl) aj) (if_pos hL) e) (av (bi (aa rfl))))
end
end Sk
namespace Sk
theorem fm (a b:Int) (hb:0<b):0≤a.fmod b∧a.fmod b<b:=⟨Int.fmod_nonneg_of_pos a hb,Int.fmod_lt_of_pos a hb⟩
theorem Cg {w:Int}(h0:0≤w) (h2:w≤9):∀ k:Nat,0≤w^k∧w^k≤9^k
 | 0=>by simp
 | k+1=>by
  obtain⟨a,b⟩:=Cg h0 h2 k
  rw [Int.pow_succ,Int.pow_succ]
  exact⟨Int.mul_nonneg a h0,Int.mul_le_mul b h2 h0 (Int.le_trans a b)⟩
theorem pk {w:Int}{k:Nat}(h1:2≤w) (h2:w≤9) (hk:k≤12):1≤w^k∧w^k≤282429536481:=by
 refine⟨Int.pow_pos (Oz.o168 h1),Int.le_trans (Cg (Oz.o181 h1) h2 k).2 ?_⟩
 have:=Nat.pow_le_pow_right (n:=9) (by decide) hk
 have h3:(9:Int)^k=((9^k:Nat):Int):=by push_cast; rfl
 rw [h3]
 have h4:(9:Nat)^12=282429536481:=by decide
 exact Oz.o465 this
section
variable {G:Gl}{cl:CallO}{W:Nat}{l:LOC}{h:HP}
theorem sx {α:Type}{g:Grd}{cond elt:AV→HP→R AV}{e f:α→AV}{p:α→Bool}(hg:okG g h=true):∀ L:List α,(∀ k∈L,cond (e k) h=.ok (.bool (p k)) h)→(∀ k∈L,p k=true→elt (e k) h=.ok (f k) h) →
  da g cond elt (L.map e) h=.ok ((L.filter p).map f) h
 | [],_,_=>if_pos hg
 | a::r,hc,he=>by
  have ih:=sx hg r (fun k hk=>hc k (.tail _ hk)) (fun k hk=>he k (.tail _ hk))
  rw [List.map_cons]
  show(if okG g h then (cond (e a) h).noexc.bind (fun c h₁=>match truthy c with
   | some true=>(elt (e a) h₁).noexc.bind fun x h₂=>(da g cond elt (r.map e) h₂).bind fun xs h₃=>R.ok (x::xs) h₃
   | some false=>da g cond elt (r.map e) h₁
   | Option.none=>.err) else .err)=_
  rw [if_pos hg,hc a (.head _)]
  cases q:p a with
  | true =>
   show((elt (e a) h).noexc.bind fun x h₂=>(da g cond elt (r.map e) h₂).bind fun xs h₃=>.ok (x::xs) h₃)=_
   rw [he a (.head _) q]
   show((da g cond elt (r.map e) h).bind fun xs h₃=>.ok (f a::xs) h₃)=_
   rw [ih,List.filter_cons,if_pos q]
   rfl
  | false =>
   show da g cond elt (r.map e) h=_
   rw [ih,List.filter_cons,if_neg (by rw [q]; decide)]
theorem Gi {elt cond:CE}{ik:IK}{es:CEs}{vs items xs:List AV}{g:Grd}{h1:HP}(he:evs G cl es l h=.ok vs h1) (hi:bp ik vs h1=some (items,g)) (hs:cb items.length=true)
  (hc:da g (fun v h'=>ev G cl cond (l++[some v]) h') (fun v h'=>ev G cl elt (l++[some v]) h') items h1=.ok xs h1):ev G cl (.comp elt ik es cond) l h=.ok (.ref h1.length) (h1++[.list xs]):=by
 show(evs G cl es l h).bind _=_
 rw [he]
 show(match bp ik vs h1 with
  | some (items,g)=>if cb items.length then (da g (fun v h'=>ev G cl cond (l++[some v]) h') (fun v h'=>ev G cl elt (l++[some v]) h') items h1).bind fun xs h₂=>R.ok (AV.ref h₂.length) (h₂++[AO.list xs]) else .err
  | Option.none=>.err)=_
 rw [hi]
 dsimp only
 rw [if_pos hs,hc]; rfl
theorem b5 {a b:CE}{h1:HP}{r:R AV}(ha:ev G cl a l h=.ok (.bool true) h1) (hb:ev G cl b l h1=r):ev G cl (.and a b) l h=r:=by
 show(ev G cl a l h).bind _=_
 rw [ha]; exact hb
theorem Ds {a b:CE}{h1:HP}(ha:ev G cl a l h=.ok (.bool true) h1):ev G cl (.or a b) l h=.ok (.bool true) h1:=by
 show(ev G cl a l h).bind _=_
 rw [ha]; rfl
theorem eu {a b:CE}{h1:HP}{r:R AV}(ha:ev G cl a l h=.ok (.bool false) h1) (hb:ev G cl b l h1=r):ev G cl (.or a b) l h=r:=by
 show(ev G cl a l h).bind _=_
 rw [ha]; exact hb
theorem bh {r k:Nat}{vs:List AV}{v:AV}(hr:h[r]?=some (.list vs)) (hv:vs[k]?=some v):dh (.ref r) (.int (k:Int)) h=.ok v h:=u0 (.inl hr) hv
theorem yo {r:Nat}{vs:List AV}{v:AV}(hr:h[r]?=some (.list (vs++[v]))):dh (.ref r) (.int (-1)) h=.ok v h:=by
 have p:place (-1) (vs++[v]).length=some vs.length:=by
  have:(vs++[v]).length=vs.length+1:=by simp
  rw [this]
  show(if 0≤-1+((vs.length+1:Nat):Int)∧-1+((vs.length+1:Nat):Int)<((vs.length+1:Nat):Int) then some (-1+((vs.length+1:Nat):Int)).toNat else Option.none)=_
  rw [if_pos ⟨Oz.o466,Oz.o467⟩]
  congr 1; exact Oz.o468
 exact wb hr rfl (by unfold mw; rw [p]; show(vs++[v])[vs.length]?=_; rw [Oz.g29 (Oz.g3 _),Nat.sub_self]; rfl)
theorem Bd {n:Nat}:∀ L:List Int,b9 (List.zipWith (eqv (n+1) h) (L.map .int) (L.map .int))=some true
 | []=>rfl
 | a::r=>by
  have e:eqv (n+1) h (.int a) (.int a)=some true:=congrArg some (decide_eq_true rfl)
  show b9 (eqv (n+1) h (.int a) (.int a)::List.zipWith (eqv (n+1) h) (r.map .int) (r.map .int))=_
  rw [e]
  show(b9 (List.zipWith (eqv (n+1) h) (r.map .int) (r.map .int))).map (true&&·)=_
  rw [Bd r]; rfl
theorem Bm {i j:Nat}{L:List Int}(hi:h[i]?=some (.list (L.map .int))) (hj:h[j]?=some (.list (L.map .int))):cj .eq (.ref i) (.ref j) h=.ok (.bool true) h:=by
 have e:eqv 6 h (.ref i) (.ref j)=some true:=by
  have u:eqv 6 h (.ref i) (.ref j)=(match h[i]?,h[j]? with
   | some (.list xs),some (.list ys)=>if xs.length=ys.length then b9 (List.zipWith (eqv 5 h) xs ys) else some false
   | some (.tup xs),some (.tup ys)=>if xs.length=ys.length then b9 (List.zipWith (eqv 5 h) xs ys) else Option.none
   | _,_=>Option.none):=rfl
  rw [u,hi,hj]
  show(if _ then _ else _)=_
  rw [if_pos rfl]
  exact Bd L
 show(match eqv 6 h (.ref i) (.ref j) with | some r=>R.ok (AV.bool r) h | Option.none=>.err)=_
 rw [e]
theorem Nq {α:Type}{k:Nat}{L:List α}(hk:h[k]?=some (.list (L.map fun ζ=>.bool true))):fw .all [.ref k] h=.ok (.bool true) h:=by
 have bs:∀ L:List α,gc (L.map fun ζ=>AV.bool true)=some (L.map fun ζ=>true):=fun L=>by
  induction L with
  | nil=>rfl
  | cons a r ih=>simp only [List.map_cons,gc,ih]; rfl
 show(match h[k]? with
  | some (.list vs)=>(match gc vs with
   | some bs=>R.ok (AV.bool (bs.all id)) h
   | Option.none=>.err)
  | _=>.err)=_
 rw [hk]
 simp only [bs]
 have al:((L.map fun ζ=>true).all id)=true:=List.all_eq_true.mpr fun x hx=>by
  obtain⟨_,_,rfl⟩:=Oz.g8.mp hx
  rfl
 rw [al]
theorem b4 {i:Nat}{o:AO}(hi:h[i]?=some o):okG (some (i,o)) h=true:=by unfold okG; exact decide_eq_true hi
theorem je {b:Int}(h1:1≤b) (h2:b≤282429536481):gi b=true:=by unfold gi; exact decide_eq_true ⟨Oz.o469 h1,Oz.o470 h1 h2⟩
theorem zo {t:CE}{b:CS}{r:RS}(hw:gq (fun l' h'=>ev G cl t l' h') (fun l' h'=>exec G cl W b l' h') W l h=r):exec G cl W (.whil t b) l h=r:=by
 exact hw
end
end Sk
namespace Sk
section
variable {G:Gl}{cl:CallO}{W:Nat}{l:LOC}{h h1 h2 h3:HP}{a b c:CE}{x y z:AV}{r:R AV}
theorem cw:ev G cl .none l h=.ok .none h:=rfl
theorem jc {i:Bool}:ev G cl (.bool i) l h=.ok (.bool i) h:=rfl
theorem b8 {i j:Int}:li .add (.int i) (.int j) h=.ok (.int (i+j)) h:=rfl
theorem fj {i j:Int}:li .sub (.int i) (.int j) h=.ok (.int (i - j)) h:=rfl
theorem et {i j:Int}(hm:gi j=true):li .fdiv (.int i) (.int j) h=.ok (.int (i.fdiv j)) h:=if_pos hm
theorem fy {i j:Int}(hm:gi j=true):li .mod (.int i) (.int j) h=.ok (.int (i.fmod j)) h:=if_pos hm
theorem dw {t:Bool}(ha:ev G cl a l h=.ok (.bool t) h1):ev G cl (.not a) l h=.ok (.bool (!t)) h1:=by
 show(ev G cl a l h).bind _=_
 rw [ha]; rfl
theorem ij (ha:ev G cl a l h=.ok (.bool false) h1):ev G cl (.and a b) l h=.ok (.bool false) h1:=by
 show(ev G cl a l h).bind _=_
 rw [ha]; rfl
theorem vf {i j:Int}:cj .le (.int i) (.int j) h=.ok (.bool (decide (i≤j))) h:=rfl
theorem vg {i j:Int}:cj .gt (.int i) (.int j) h=.ok (.bool (decide (j<i))) h:=rfl
theorem Ik {i j:Int}:cj .ge (.int i) (.int j) h=.ok (.bool (decide (j≤i))) h:=rfl
theorem oj {i j:Int}:cj .eq (.int i) (.int j) h=.ok (.bool (decide (i=j))) h:=rfl
theorem qx {i j:Int}:cj .ne (.int i) (.int j) h=.ok (.bool (!decide (i=j))) h:=rfl
theorem jw {i j k:Int}(ha:ev G cl a l h=.ok (.int i) h1) (hb:ev G cl b l h1=.ok (.int j) h2) (hc:ev G cl c l h2=.ok (.int k) h2):ev G cl (.chain a .le b .le c) l h=.ok (.bool (decide (i≤j)&&decide (j≤k))) h2:=by
 show(ev G cl a l h).bind _=_
 rw [ha]
 show(ev G cl b l h1).bind _=_
 rw [hb]
 show(cj COp.le (AV.int i) (AV.int j) h2).bind (fun r h₃=>match truthy r with
  | some true=>(ev G cl c l h₃).bind fun z h₄=>cj .le (.int j) z h₄
  | some false=>R.ok r h₃
  | Option.none=>.err)=_
 rw [vf]
 cases q:decide (i≤j) with
 | true =>
  show(ev G cl c l h2).bind _=_
  rw [hc]; rfl
 | false=>rfl
theorem fb {n i c' d:Nat}{fs:List (Nat×AV)}(ha:ev G cl a l h=.ok (.ref i) h) (hi:h[i]?=some (.inst c' d)) (hd:h[d]?=some (.fields fs)) (hf:fs.lookup n=some x):ev G cl (.attr a n) l h=.ok x h:=by
 show(ev G cl a l h).bind _=_
 rw [ha]
 show tp n (.ref i) h=_
 unfold tp
 dsimp only
 rw [hi]
 dsimp only
 rw [hd]
 dsimp only
 rw [hf]
theorem pg {q k:Nat}{vs:List AV}(hr:h[q]?=some (.tup vs)) (hv:vs[k]?=some x):dh (.ref q) (.int (k:Int)) h=.ok x h:=u0 (.inr (.inl hr)) hv
theorem kf {i:Nat}{vs:List AV}(hi:h[i]?=some (.list vs)):fw .len [.ref i] h=.ok (.int vs.length) h:=Dl hi rfl
theorem ii {t:Bool}(ha:ev G cl a l h=.ok x h1) (hb:ev G cl b l h1=.ok y h2) (hc:n6 t x y h2=r):ev G cl (.isin t a b) l h=r:=by
 show(ev G cl a l h).bind _=r
 rw [ha]
 show(ev G cl b l h1).bind _=r
 rw [hb]; exact hc
theorem mz:∀ L:List Int,f7 (L.map .int)=some L
 | []=>rfl
 | a::r=>by
  show(f7 (r.map .int)).map (a::·)=_
  rw [mz r]; rfl
theorem Nb {t:Bool}{n:Int}{i:Nat}{ao:AO}{b:Bool}(hi:h[i]?=some ao) (hb:wc n ao=some b):n6 t (.int n) (.ref i) h=.ok (.bool (t ^^ b)) h:=by
 show((h[i]?).bind (wc n)).elim (R.err:R AV) _=_
 rw [hi]
 show(wc n ao).elim (R.err:R AV) _=_
 rw [hb]; rfl
theorem ju {t:Bool}{n:Int}{i:Nat}{L:List Int}(hi:h[i]?=some (.list (L.map .int))):n6 t (.int n) (.ref i) h=.ok (.bool (t ^^ decide (n∈L))) h:=Nb hi (by
 show(f7 (L.map .int)).map _=_
 rw [mz]; rfl)
theorem ax {f:Nat}{es:CEs}{vs:List AV}(he:evs G cl es l h=.ok vs h1) (hc:cl f vs h1=r):ev G cl (.call f es) l h=r:=by
 show(evs G cl es l h).bind _=_
 rw [he]; exact hc
theorem gf {m i c' d f:Nat}{es:CEs}{vs:List AV}{fs:List (Nat×AV)}(ha:ev G cl a l h=.ok (.ref i) h1) (hi:h1[i]?=some (.inst c' d)) (hm:G.meth c' m=some f) (hd:h1[d]?=some (.fields fs)) (he:evs G cl es l h1=.ok vs h2)
  (hc:cl f (.ref i::vs) h2=r):ev G cl (.meth a m es) l h=r:=by
 show(ev G cl a l h).bind _=_
 rw [ha]
 show(match h1[i]? with
    | some (.inst c d)=>(match G.meth c m,h1[d]? with
     | some f,some (.fields _)=>(evs G cl es l h1).bind fun vs h₂=>cl f (.ref i::vs) h₂
     | _,_=>.err)
    | _=>R.err)=_
 rw [hi]
 dsimp only
 rw [hm,hd]
 dsimp only
 rw [he]; exact hc
theorem j7 {es:CEs}{vs:List AV}(he:evs G cl es l h=.ok vs h1) (hz:cb vs.length=true):ev G cl (.tup es) l h=.ok (.ref h1.length) (h1++[.tup vs]):=by
 show(evs G cl es l h).bind _=_
 rw [he]
 exact if_pos hz
theorem b3 {es:CEs}{vs:List AV}(he:evs G cl es l h=.ok vs h1) (hz:cb vs.length=true):ev G cl (.list es) l h=.ok (.ref h1.length) (h1++[.list vs]):=by
 show(evs G cl es l h).bind _=_
 rw [he]
 exact if_pos hz
theorem jo (ha:ev G cl a l h=.ok .none h1){t:Bool}:ev G cl (.isC t a Option.none) l h=.ok (.bool (t ^^ true)) h1:=by
 show(ev G cl a l h).bind _=_
 rw [ha]; rfl
theorem qb {i:Int}(ha:ev G cl a l h=.ok (.int i) h1){t:Bool}:ev G cl (.isC t a Option.none) l h=.ok (.bool (t ^^ false)) h1:=by
 show(ev G cl a l h).bind _=_
 rw [ha]; rfl
theorem jd {q:Nat}{vs:List AV}(ha:ev G cl a l h=.ok (.ref q) h1) (h1q:h1[q]?=some (.list vs)) (hb:ev G cl b l h1=.ok y h2) (h2q:h2[q]?=some (.list vs)) (hz:cb vs.length=true) :
  ev G cl (.bm .append a (.cons b .nil)) l h=.ok .none (h2.set q (.list (vs++[y]))):=by
 show(ev G cl a l h).bind _=_
 rw [ha]
 have k:dz .append (.ref q) h1=true:=by unfold dz; dsimp only; rw [h1q]
 show(if dz .append (.ref q) h1 then (evs G cl (.cons b .nil) l h1).bind fun vs h₂=>tg .append (.ref q) vs h₂ else .err)=_
 rw [if_pos k,ag hb aj]
 show((h2[q]?).bind iv).elim .err (fun vs=>if cb vs.length then R.ok AV.none (h2.set q (.list (vs++[y]))) else .err)=_
 rw [h2q]
 exact if_pos hz
set_option tactic.hygienic true in
theorem vk {t:CE}{bd:CS}{n:Nat}{l1:LOC}{r:RS}(ht:ev G cl t l h=.ok (.bool true) h1) (hb:exec G cl W bd l h1=.next l1 h2) (hw:gq (fun l' h'=>ev G cl t l' h') (fun l' h'=>exec G cl W bd l' h') n l1 h2=r) :
  gq (fun l' h'=>ev G cl t l' h') (fun l' h'=>exec G cl W bd l' h') (n+1) l h=r:=by
 show(ev G cl t l h).thn l _=r
 rw [ht]
 show(exec G cl W bd l h1).thn _=r
 rw [hb]; exact hw
theorem Nv {t:CE}{bd:CS}{n:Nat}(ht:ev G cl t l h=.ok (.bool true) h1) (hb:exec G cl W bd l h1=.ret x h2) :
  gq (fun l' h'=>ev G cl t l' h') (fun l' h'=>exec G cl W bd l' h') (n+1) l h=.ret x h2:=by
 show(ev G cl t l h).thn l _=_
 rw [ht]
 show(exec G cl W bd l h1).thn _=_
 rw [hb]; rfl
set_option tactic.hygienic true in
theorem C3 {t:CE}{bd:CS}{n:Nat}(ht:ev G cl t l h=.ok (.bool false) h1):gq (fun l' h'=>ev G cl t l' h') (fun l' h'=>exec G cl W bd l' h') (n+1) l h=.next l h1:=by
 show(ev G cl t l h).thn l _=_
 rw [ht]; rfl
end
structure Lad (h:HP) (i d k:Nat) (w:Int) (H:Nat) (kept:List Int):Prop where
 inst:h[i]?=some (.inst 0 d)
 flds:h[d]?=some (.fields [(0,.int w),(1,.int (H:Int)),(2,.int (w^H)),(3,.int (kept.length:Int)),(4,.ref k)])
 list:h[k]?=some (.list (kept.map .int))
section
variable {G:Gl}{cl:CallO}{l:LOC}{h:HP}{i d k:Nat}{w:Int}{H:Nat}{kept:List Int}
theorem Lad.ea {a n:Nat}{v:AV}(L:Lad h i d k w H kept) (hl:l[a]?=some (some (.ref i))) (hv:([(0,.int w),(1,.int (H:Int)),(2,.int (w^H)),(3,.int (kept.length:Int)),(4,.ref k)]:List (Nat×AV)).lookup n=some v):ev G cl (.attr (.loc a) n) l h=.ok v h:=fb (aa hl) L.inst L.flds hv
theorem Lad.em {a m f:Nat}{es:CEs}{vs:List AV}{h2:HP}{r:R AV}(L:Lad h i d k w H kept) (hl:l[a]?=some (some (.ref i))) (hm:G.meth 0 m=some f) (he:evs G cl es l h=.ok vs h2) (hc:cl f (.ref i::vs) h2=r):ev G cl (.meth (.loc a) m es) l h=r:=gf (aa hl) L.inst hm L.flds he hc
theorem es1 {a:Nat}{v:AV}(ha:l[a]?=some (some v)):evs G cl (.cons (.loc a) .nil) l h=.ok [v] h:=ag (aa ha) aj
theorem es2 {a b:Nat}{v u:AV}(ha:l[a]?=some (some v)) (hb:l[b]?=some (some u)):evs G cl (.cons (.loc a) (.cons (.loc b) .nil)) l h=.ok [v,u] h:=ag (aa ha) (es1 hb)
end
structure Ext (S:List Nat) (h h' : HP):Prop where
 len:h.length≤h'.length
 keep:∀ j,j<h.length→j∉S→h'[j]?=h[j]?
theorem Ext.refl {S:List Nat}{h:HP}:Ext S h h:=⟨Oz.g3 _,fun ζ ζ ζ=>rfl⟩
theorem Ext.trans {S:List Nat}{h h' h'' : HP}(a:Ext S h h') (b:Ext S h' h''):Ext S h h'' := ⟨Oz.g2 a.len b.len,fun j hj hs=>(b.keep j (Oz.g27 hj a.len) hs).trans (a.keep j hj hs)⟩
theorem Ext.app {S:List Nat}{h g:HP}:Ext S h (h++g):=⟨by simp,fun j hj ζ=>Oz.g23 hj⟩
theorem Ext.get {S:List Nat}{h h' : HP}(a:Ext S h h'){j:Nat}{o:AO}(e:h[j]?=some o) (hs:j∉S):h'[j]?=some o:=(a.keep j (Oz.g4.mp e).1 hs).trans e
theorem Ext.mono {S T:List Nat}{h h' : HP}(a:Ext S h h') (hs:∀ j∈S,j∈T):Ext T h h' := ⟨a.len,fun j hj ht=>a.keep j hj fun q=>ht (hs j q)⟩
theorem Lad.ext {h h' : HP}{i d k:Nat}{w:Int}{H:Nat}{kept:List Int}{S:List Nat}(L:Lad h i d k w H kept) (x:Ext S h h') (h1:i∉S) (h2:d∉S) (h3:k∉S):Lad h' i d k w H kept :=
 ⟨x.get L.inst h1,x.get L.flds h2,x.get L.list h3⟩
structure Pl (kept:List Int) (n:Int) (p:Nat):Prop where
 le:p≤kept.length
 lo:∀ j y,j<p→kept[j]?=some y→y<n
 hi:∀ j y,p≤j→kept[j]?=some y→n≤y
noncomputable def rx (X:CS):CS:=(.seq (.ite (.not (.chain (.int 0) .le (.loc 1) .le (.loc 2))) (.seq X .skip) .skip) .skip)
noncomputable def n5:CS:=(.seq (.asg 2 (.int 0)) (.seq (.asg 3 (.bf .len (.cons (.attr (.loc 0) 4) .nil))) (.seq (.whil (.cmp .lt (.loc 2) (.loc 3))
  (.seq (.asg 4 (.bin .fdiv (.bin .add (.loc 2) (.loc 3)) (.int 2))) (.seq (.ite (.cmp .lt (.item (.attr (.loc 0) 4) (.loc 4)) (.loc 1)) (.seq (.asg 2 (.bin .add (.loc 4) (.int 1))) .skip) (.seq (.asg 3 (.loc 4)) .skip)) .skip))) (.seq (.ret (.loc 2)) .skip))))
noncomputable def nz:CS:=(.seq (.asg 3 .none) (.seq (.asg 4 .none) (.seq (.ite (.cmp .gt (.loc 1) (.int 0)) (.seq (.asg 3 (.item (.attr (.loc 0) 4) (.bin .sub (.loc 1) (.int 1)))) .skip) .skip)
 (.seq (.ite (.cmp .lt (.loc 2) (.bf .len (.cons (.attr (.loc 0) 4) .nil))) (.seq (.asg 4 (.item (.attr (.loc 0) 4) (.loc 2))) .skip) .skip) (.seq (.ret (.tup (.cons (.loc 3) (.cons (.loc 4) .nil)))) .skip)))))
noncomputable def zk:CS:=(.seq (.ex (.meth (.loc 0) 1 (.cons (.loc 1) (.cons (.bin .sub (.attr (.loc 0) 2) (.int 1)) .nil)))) (.seq (.ret (.isin false (.loc 1) (.attr (.loc 0) 4))) .skip))
section
variable {G:Gl}{W n:Nat}{h:HP}{i d k:Nat}{w:Int}{H:Nat}{kept:List Int}
theorem nl {X:CS}{v u:Int}(hG:G.fns 4=some ⟨3,3,rx X⟩) (h0:0≤v) (h1:v≤u):ae G W (n+1) 4 [.ref i,.int v,.int u] h=.ok .none h:=by
 refine s9 (l1:=[some (.ref i),some (.int v),some (.int u)]) hG rfl ?_
 refine af (ap (h1:=h) ?_ ah) ah
 have e:=jw (G:=G) (cl:=ae G W n) (l:=[some (.ref i),some (.int v),some (.int u)]) (h:=h) (h1:=h) (h2:=h) (i:=0) (j:=v) (k:=u) (a:=.int 0) (b:=.loc 1) (c:=.loc 2) ai (aa rfl) (aa rfl)
 rw [decide_eq_true h0,decide_eq_true h1] at e
 exact dw e
set_option tactic.hygienic true in
theorem o7 {cl:CallO}{v:Int}(L:Lad h i d k w H kept) (srt:kept.Pairwise (·<·)):∀ (fuel lo hi:Nat),hi - lo<fuel→lo≤hi→hi≤kept.length→(∀ j y,j<lo→kept[j]?=some y→y<v)→(∀ j y,hi≤j→kept[j]?=some y→v≤y)→∀ z,Oz.E3 fun p q z'=>Pl kept v p ∧
  gq (fun l' h'=>ev G cl (.cmp .lt (.loc 2) (.loc 3)) l' h') (fun l' h'=>exec G cl W (.seq (.asg 4 (.bin .fdiv (.bin .add (.loc 2) (.loc 3)) (.int 2))) (.seq (.ite (.cmp .lt (.item (.attr (.loc 0) 4) (.loc 4)) (.loc 1)) (.seq (.asg 2 (.bin .add (.loc 4) (.int 1))) .skip) (.seq (.asg 3 (.loc 4)) .skip)) .skip)) l' h') fuel
   [some (.ref i),some (.int v),some (.int lo),some (.int hi),z] h=.next [some (.ref i),some (.int v),some (.int (p:Nat)),q,z'] h
 | fuel+1,lo,hi,hf,hle,hhi,hl,hh,z=>by
  by_cases q:lo<hi
  ·have t1:ev G cl (.cmp .lt (.loc 2) (.loc 3)) [some (.ref i),some (.int v),some (.int lo),some (.int hi),z] h=.ok (.bool true) h:=by
    have:=az (G:=G) (cl:=cl) (l:=[some (.ref i),some (.int v),some (.int lo),some (.int hi),z]) (h:=h) (h1:=h) (h2:=h) (a:=.loc 2) (b:=.loc 3) (o:=.lt) (aa rfl) (aa rfl) (mr (i:=(lo:Int)) (j:=(hi:Int)))
    rwa [decide_eq_true (show(lo:Int)<hi by exact Oz.o256 q)] at this
   obtain⟨m,hm⟩:∃ m,m=(lo+hi) / 2:=⟨_,rfl⟩
   have hm1:lo≤m:=by exact Oz.o299 q hm
   have hm2:m<hi:=by exact Oz.o300 q hm
   have ym:kept[m]?=some (kept[m]'(by exact Oz.o301 hhi hm2)):=Oz.g10 (by exact Oz.o301 hhi hm2)
   obtain⟨y,hy⟩:∃ y,kept[m]?=some y:=⟨_,ym⟩
   have hmid:((lo:Int)+(hi:Int)).fdiv 2=(m:Int):=by rw [Int.fdiv_eq_ediv_of_nonneg _ (by decide),hm]; exact Oz.o302
   have s1:exec G cl W (.asg 4 (.bin .fdiv (.bin .add (.loc 2) (.loc 3)) (.int 2))) [some (.ref i),some (.int v),some (.int lo),some (.int hi),z] h=.next [some (.ref i),some (.int v),some (.int lo),some (.int hi),some (.int m)] h:=by
    rw [← hmid]
    exact am (aq (aq (aa rfl) (aa rfl) b8) ai (et (by decide)))
   have it:dh (.ref k) (.int m) h=.ok (.int y) h:=bh L.list (by rw [Oz.g12,hy]; rfl)
   have e1:ev G cl (.cmp .lt (.item (.attr (.loc 0) 4) (.loc 4)) (.loc 1)) [some (.ref i),some (.int v),some (.int lo),some (.int hi),some (.int m)] h=.ok (.bool (decide (y<v))) h :=
    az (bc (fb (aa rfl) L.inst L.flds rfl) (aa rfl) it) (aa rfl) mr
   by_cases c:y<v
   ·rw [decide_eq_true c] at e1
    refine Oz.z fun ζ η=>?_
    obtain⟨p,q',z',hp,e⟩:=o7 (cl:=cl) L srt fuel (m+1) hi (by exact Oz.o303 hf hm hm2) (by exact Oz.o266 hm2) hhi (fun j x hj hx=>by
     rcases Nat.lt_or_ge j m with hjm | hjm
     ·obtain⟨a1,b1⟩:=Oz.g4.mp hx
      obtain⟨a2,b2⟩:=Oz.g4.mp hy
      have:=Oz.g30.mp srt j m a1 a2 hjm
      exact Oz.o304 c b1 b2 this
     ·rw [show j=m by exact Oz.o34 hj hjm,hy] at hx; cases hx; exact c) hh (some (.int m))
    refine η ?_
    refine⟨p,q',z',hp,vk t1 (af s1 (af (be e1 (af (am (aq (aa rfl) ai b8)) ah)) ah)) ?_⟩
    exact e
   ·rw [decide_eq_false c] at e1
    refine Oz.z fun ζ1 η1=>?_
    obtain⟨p,q',z',hp,e⟩:=o7 (cl:=cl) L srt fuel lo m (by exact Oz.o305 hf q hm) (by exact Oz.o16 hm1) (by exact Oz.o306 hhi hm2) hl (fun j x hj hx=>by
     rcases Nat.lt_or_ge m j with hjm | hjm
     ·obtain⟨a1,b1⟩:=Oz.g4.mp hx
      obtain⟨a2,b2⟩:=Oz.g4.mp hy
      have:=Oz.g30.mp srt m j a2 a1 hjm
      exact Oz.o307 c b1 b2 this
     ·rw [show j=m by exact Oz.o308 hj hjm,hy] at hx; cases hx; exact Oz.o179 c) (some (.int m))
    refine η1 ?_
    exact⟨p,q',z',hp,vk t1 (af s1 (af (ap e1 (af (am (aa rfl)) ah)) ah)) e⟩
  ·refine⟨lo,_,_,⟨by exact Oz.o309 hle hhi,hl,fun j y hj=>hh j y (by exact Oz.o310 q hj)⟩,C3 ?_⟩
   have:=az (G:=G) (cl:=cl) (l:=[some (.ref i),some (.int v),some (.int lo),some (.int hi),z]) (h:=h) (h1:=h) (h2:=h) (a:=.loc 2) (b:=.loc 3) (o:=.lt) (aa rfl) (aa rfl) (mr (i:=(lo:Int)) (j:=(hi:Int)))
   rwa [decide_eq_false (show ¬ (lo:Int)<hi by exact Oz.o261 q)] at this
theorem jn {v:Int}(hG:G.fns 5=some ⟨2,5,n5⟩) (L:Lad h i d k w H kept) (srt:kept.Pairwise (·<·)) (hW:kept.length<W):∃ p,Pl kept v p∧ae G W (n+1) 5 [.ref i,.int v] h=.ok (.int (p:Nat)) h:=by
 refine Oz.z fun ζ η=>?_
 obtain⟨p,q,z',hp,e⟩:=o7 (G:=G) (W:=W) (cl:=ae G W n) (v:=v) L srt W 0 kept.length (Oz.o311 hW) (Oz.o5) (Oz.g3 _) (fun j y hj=>by lia) (fun j y hj hy=>by have:=(Oz.g4.mp hy).1; exact Oz.o312 hj this) Option.none
 refine η ?_
 refine⟨p,hp,bj hG rfl ?_⟩
 have ln:fw .len [.ref k] h=.ok (.int (kept.length:Int)) h:=by
  have:=kf L.list
  rwa [Oz.g13] at this
 exact af (am ai) (af (am (b7 (fb (aa rfl) L.inst L.flds rfl) ln)) (af (zo e) (av (bi (aa rfl)))))
theorem ua {X:CS}{v:Int}(hG:G.fns 8=some ⟨2,2,zk⟩) (hN:G.fns 4=some ⟨3,3,rx X⟩) (hm:G.meth 0 1=some 4) (L:Lad h i d k w H kept) (h0:0≤v) (h1:v<w^H):ae G W (n+2) 8 [.ref i,.int v] h=.ok (.bool (decide (v∈kept))) h:=by
 refine bj hG rfl ?_
 have nd:ae G W (n+1) 4 [.ref i,.int v,.int (w^H - 1)] h=.ok .none h:=nl hN h0 (Oz.o178 h1)
 have e:=ju (t:=false) (n:=v) L.list
 rw [Bool.false_xor] at e
 exact af (ca (gf (aa rfl) L.inst hm L.flds (ag (aa rfl) (ag (aq (fb (aa rfl) L.inst L.flds rfl) ai fj) aj)) nd)) (av (bi (ii (aa rfl) (fb (aa rfl) L.inst L.flds rfl) e)))
end
end Sk
namespace Sk
noncomputable def oav:Option Int→AV
 | Option.none=>.none
 | some i=>.int i
noncomputable def bef (kept:List Int) (p:Nat):Option Int:=match p with
 | 0=>Option.none
 | p+1=>kept[p]?
structure Met (w B N:Int) (H T:Nat):Prop where
 le:T≤H+1
 apart:∀ l,l<T→B.fdiv (w^l)≠N.fdiv (w^l)
 meet:T≤H→B.fdiv (w^T)=N.fdiv (w^T)
noncomputable def fz (w:Int) (H:Nat):Option Int→Int→Nat→Prop
 | Option.none,_,T=>T=H+1
 | some b,n,T=>Met w b n H T
theorem fz.le {w:Int}{H:Nat}{b:Option Int}{n:Int}{T:Nat}(t:fz w H b n T):T≤H+1:=by
 cases b with
 | none=>exact Nat.le_of_eq t
 | some b=>exact Met.le t
noncomputable def v9:CS:=(.seq (.ite (.isC false (.loc 2) Option.none) (.seq (.ret (.bin .add (.loc 1) (.int 1))) .skip) .skip) (.seq (.asg 4 (.int 0)) (.seq (.asg 5 (.int 1))
 (.seq (.whil (.and (.cmp .le (.loc 4) (.loc 1)) (.cmp .ne (.bin .fdiv (.loc 2) (.loc 5)) (.bin .fdiv (.loc 3) (.loc 5)))) (.seq (.asg 4 (.bin .add (.loc 4) (.int 1))) (.seq (.asg 5 (.bin .mul (.loc 5) (.loc 0))) .skip))) (.seq (.ret (.loc 4)) .skip)))))
noncomputable def ry:CS:=(.seq (.asg 4 (.list .nil)) (.seq (.for1 5 .range1 (.cons (.call 2 (.cons (.attr (.loc 0) 0) (.cons (.attr (.loc 0) 1) (.cons (.loc 1) (.cons (.loc 2) .nil))))) .nil)
  (.seq (.asg 6 (.bool false)) (.seq (.ite (.and (.isC true (.loc 3) Option.none) (.cmp .gt (.call 2 (.cons (.attr (.loc 0) 0) (.cons (.attr (.loc 0) 1) (.cons (.loc 1) (.cons (.loc 3) .nil))))) (.loc 5)))
   (.seq (.asg 6 (.cmp .le (.call 2 (.cons (.attr (.loc 0) 0) (.cons (.attr (.loc 0) 1) (.cons (.loc 2) (.cons (.loc 3) .nil))))) (.loc 5))) .skip) .skip) (.seq (.ex (.bm .append (.loc 4) (.cons (.loc 6) .nil))) .skip)))) (.seq (.ret (.loc 4)) .skip)))
section
variable {G:Gl}{W n:Nat}{h:HP}{i d k:Nat}{w:Int}{H:Nat}{kept:List Int}
noncomputable abbrev Nx:CE:=(.and (.cmp .le (.loc 4) (.loc 1)) (.cmp .ne (.bin .fdiv (.loc 2) (.loc 5)) (.bin .fdiv (.loc 3) (.loc 5))))
noncomputable abbrev Ny:CS:=(.seq (.asg 4 (.bin .add (.loc 4) (.int 1))) (.seq (.asg 5 (.bin .mul (.loc 5) (.loc 0))) .skip))
set_option tactic.hygienic true in
theorem rh {cl:CallO}{B N:Int}(hw:2≤w) (hw9:w≤9) (hH:H≤12):∀ (fuel m:Nat),m≤H+1→H+1 - m<fuel→(∀ l,l<m→B.fdiv (w^l)≠N.fdiv (w^l))→Oz.E2 fun T z=>Met w B N H T ∧
  gq (fun l' h'=>ev G cl Nx l' h') (fun l' h'=>exec G cl W Ny l' h') fuel [some (.int w),some (.int H),some (.int B),some (.int N),some (.int m),some (.int (w^m))] h =
   .next [some (.int w),some (.int H),some (.int B),some (.int N),some (.int (T:Nat)),z] h
 | fuel+1,m,hd,hf,hl=>by
  by_cases hm:m≤H
  ·have dv:=je (pk hw hw9 (show m≤12 by exact Oz.o329 hH hm)).1 (pk hw hw9 (show m≤12 by exact Oz.o329 hH hm)).2
   have t1:ev G cl (.cmp .le (.loc 4) (.loc 1)) [some (.int w),some (.int H),some (.int B),some (.int N),some (.int m),some (.int (w^m))] h=.ok (.bool true) h:=by
    rw [show true=decide ((m:Int)≤H) from(decide_eq_true (by exact Oz.o330 hm)).symm]
    exact az (aa rfl) (aa rfl) vf
   have t2:ev G cl (.cmp .ne (.bin .fdiv (.loc 2) (.loc 5)) (.bin .fdiv (.loc 3) (.loc 5))) [some (.int w),some (.int H),some (.int B),some (.int N),some (.int m),some (.int (w^m))] h=.ok (.bool (!decide (B.fdiv (w^m)=N.fdiv (w^m)))) h :=
    az (aq (aa rfl) (aa rfl) (et dv)) (aq (aa rfl) (aa rfl) (et dv)) qx
   by_cases q:B.fdiv (w^m)=N.fdiv (w^m)
   ·rw [decide_eq_true q] at t2
    exact⟨m,_,⟨by exact Oz.o331 hd,hl,fun ζ=>q⟩,C3 (b5 t1 t2)⟩
   ·rw [decide_eq_false q] at t2
    obtain⟨T,z,mt,e⟩:=rh (cl:=cl) hw hw9 hH fuel (m+1) (by exact Oz.o332 hm) (by exact Oz.o333 hf hm) (fun l hlt=>by
     rcases Nat.lt_or_ge l m with x | x
     ·exact hl l x
     ·rw [show l=m by exact Oz.o34 hlt x]; exact q)
    refine⟨T,z,mt,vk (b5 t1 t2) (af (am (aq (aa rfl) ai b8)) (af (am (aq (aa rfl) (aa rfl) (lj ?_))) ah)) ?_⟩
    ·unfold uc; exact decide_eq_true (.inr (Oz.o334 hw hw9))
    ·rw [Int.pow_succ] at e; exact e
  ·have t1:ev G cl (.cmp .le (.loc 4) (.loc 1)) [some (.int w),some (.int H),some (.int B),some (.int N),some (.int m),some (.int (w^m))] h=.ok (.bool false) h:=by
    rw [show false=decide ((m:Int)≤H) from(decide_eq_false (Oz.o335 hm)).symm]
    exact az (aa rfl) (aa rfl) vf
   exact⟨m,_,⟨by exact Oz.o331 hd,hl,fun q=>by exact Oz.o336 hm q⟩,C3 (ij t1)⟩
theorem Ad {b:Option Int}{N:Int}(hG:G.fns 2=some ⟨4,6,v9⟩) (hw:2≤w) (hw9:w≤9) (hH:H≤12) (hW:14<W):∃ T,fz w H b N T∧∀ n h,ae G W (n+1) 2 [.int w,.int H,oav b,.int N] h=.ok (.int (T:Nat)) h:=by
 cases b with
 | none =>
  refine⟨H+1,rfl,fun n h=>bj hG rfl ?_⟩
  exact av (be (jo (aa rfl)) (av (bi (aq (aa rfl) ai b8))))
 | some B =>
  obtain⟨T,_,mt,_⟩:=rh (G:=G) (W:=W) (h:=[]) (cl:=fun ζ ζ ζ=>.err) (B:=B) (N:=N) hw hw9 hH W 0 (by exact Oz.o337) (by exact Oz.o338 hH hW) (fun l hl=>by exact Oz.o339 hl)
  refine⟨T,mt,fun n h=>bj hG rfl ?_⟩
  refine Oz.z fun ζ η=>?_
  obtain⟨T',z,mt',e⟩:=rh (G:=G) (W:=W) (h:=h) (cl:=ae G W n) (B:=B) (N:=N) hw hw9 hH W 0 (by exact Oz.o337) (by exact Oz.o338 hH hW) (fun l hl=>by exact Oz.o339 hl)
  have hT:T'=T:=by
   rcases Nat.lt_trichotomy T' T with q | q | q
   ·exact absurd (mt'.meet (by have:=mt.le; exact Oz.o340 q this)) (mt.apart T' q)
   ·exact q
   ·exact absurd (mt.meet (by have:=mt'.le; exact Oz.o340 q this)) (mt'.apart T q)
  subst hT
  refine η ?_
  rw [Int.pow_zero] at e
  exact af (ap (qb (aa rfl)) ah) (af (am ai) (af (am ai) (af (zo e) (av (bi (aa rfl))))))
set_option tactic.hygienic true in
theorem rt {p q:Nat}(hG:G.fns 6=some ⟨3,5,nz⟩) (L:Lad h i d k w H kept) (hp:p≤kept.length):ae G W (n+1) 6 [.ref i,.int p,.int q] h=.ok (.ref h.length) (h++[.tup [oav (bef kept p),oav kept[q]?]]):=by
 refine bj hG rfl ?_
 have at4:∀ l:LOC,l[0]?=some (some (.ref i))→ev G (ae G W n) (.attr (.loc 0) 4) l h=.ok (.ref k) h:=fun l hl=>fb (aa hl) L.inst L.flds rfl
 have ln:fw .len [.ref k] h=.ok (.int (kept.length:Int)) h:=by
  have:=kf L.list
  rwa [Oz.g13] at this
 have s1:exec G (ae G W n) W (.ite (.cmp .gt (.loc 1) (.int 0)) (.seq (.asg 3 (.item (.attr (.loc 0) 4) (.bin .sub (.loc 1) (.int 1)))) .skip) .skip) [some (.ref i),some (.int p),some (.int q),some .none,some .none] h=.next [some (.ref i),some (.int p),some (.int q),some (oav (bef kept p)),some .none] h:=by
  have t:ev G (ae G W n) (.cmp .gt (.loc 1) (.int 0)) [some (.ref i),some (.int p),some (.int q),some .none,some .none] h=.ok (.bool (decide ((0:Int)<p))) h:=az (aa rfl) ai vg
  cases p with
  | zero=>exact ap t ah
  | succ p =>
   rw [decide_eq_true (show(0:Int)<((p+1:Nat):Int) by exact Oz.o341)] at t
   obtain⟨y,hy⟩:∃ y,kept[p]?=some y:=⟨_,Oz.g10 (Oz.o244 hp)⟩
   have e0:((p+1:Nat):Int) - 1=(p:Int):=Oz.o245
   have it:dh (.ref k) (.int (((p+1:Nat):Int) - 1)) h=.ok (.int y) h:=by rw [e0]; exact bh L.list (by rw [Oz.g12,hy]; rfl)
   show _=RS.next [some (.ref i),some (.int ((p+1:Nat):Int)),some (.int q),some (oav kept[p]?),some .none] h
   rw [hy]
   exact be t (af (am (bc (at4 _ rfl) (aq (aa rfl) ai fj) it)) ah)
 have s2:∀ z,exec G (ae G W n) W (.ite (.cmp .lt (.loc 2) (.bf .len (.cons (.attr (.loc 0) 4) .nil))) (.seq (.asg 4 (.item (.attr (.loc 0) 4) (.loc 2))) .skip) .skip) [some (.ref i),some (.int p),some (.int q),z,some .none] h=.next [some (.ref i),some (.int p),some (.int q),z,some (oav kept[q]?)] h:=fun z=>by
  have t:ev G (ae G W n) (.cmp .lt (.loc 2) (.bf .len (.cons (.attr (.loc 0) 4) .nil))) [some (.ref i),some (.int p),some (.int q),z,some .none] h=.ok (.bool (decide ((q:Int)<(kept.length:Int)))) h:=az (aa rfl) (b7 (at4 _ rfl) ln) mr
  by_cases hq:q<kept.length
  ·rw [decide_eq_true (by exact Oz.o256 hq)] at t
   obtain⟨y,hy⟩:∃ y,kept[q]?=some y:=⟨_,Oz.g10 hq⟩
   rw [hy]
   exact be t (af (am (bc (at4 _ rfl) (aa rfl) (bh L.list (by rw [Oz.g12,hy]; rfl)))) ah)
  ·rw [decide_eq_false (by exact Oz.o261 hq)] at t
   rw [List.getElem?_eq_none (Nat.not_lt.mp hq)]
   exact ap t ah
 exact af (am cw) (af (am cw) (af s1 (af (s2 _) (av (bi (j7 (es2 rfl rfl) rfl))))))
noncomputable def bo (a:Option Int) (T2 T3 l:Nat):Bool:=a.isSome&&decide (l<T2)&&decide (T3≤l)
set_option tactic.hygienic true in
theorem yg {b a:Option Int}{N:Int}(hG:G.fns 7=some ⟨4,7,ry⟩) (hT:G.fns 2=some ⟨4,6,v9⟩) (L:Lad h i d k w H kept) (hw:2≤w) (hw9:w≤9) (hH:H≤12) (hW:14<W):Oz.E3 fun T T2 T3=>fz w H b N T∧(∀ y,a=some y→fz w H b y T2∧Met w N y H T3) ∧
  ae G W (n+2) 7 [.ref i,oav b,.int N,oav a] h=.ok (.ref h.length) (h++[.list ((List.range T).map fun l=>.bool (bo a T2 T3 l))]):=by
 refine Oz.z fun ζ η=>?_
 obtain⟨T,t1,c1⟩:=Ad (b:=b) (N:=N) hT hw hw9 hH hW
 obtain⟨T2,T3,t2,c2⟩:Oz.E2 fun T2 T3=>(∀ y,a=some y→fz w H b y T2∧Met w N y H T3)∧∀ y,a=some y→(∀ n h,ae G W (n+1) 2 [.int w,.int H,oav b,.int y] h=.ok (.int (T2:Nat)) h)∧(∀ n h,ae G W (n+1) 2 [.int w,.int H,.int N,.int y] h=.ok (.int (T3:Nat)) h):=by
  cases a with
  | none=>exact⟨0,0,fun ζ q=>(by cases q),fun ζ q=>(by cases q)⟩
  | some y =>
   refine Oz.z fun ζ1 η1=>?_
   obtain⟨T2,a1,a2⟩:=Ad (b:=b) (N:=y) hT hw hw9 hH hW
   obtain⟨T3,b1,b2⟩:=Ad (b:=some N) (N:=y) hT hw hw9 hH hW
   refine η1 ?_
   exact⟨T2,T3,fun ζ q=>(by cases q; exact⟨a1,b1⟩),fun ζ q=>(by cases q; exact⟨a2,b2⟩)⟩
 refine η ?_
 refine⟨T,T2,T3,t1,t2,bj hG rfl ?_⟩
 have hT13:T≤13:=by have:=t1.le; exact Oz.o342 hH this
 have Lx:∀ g:HP,Lad (h++g) i d k w H kept:=fun g=>L.ext (Ext.app (S:=[])) Oz.g0 Oz.g0 Oz.g0
 have at_:∀ (g:HP) (l:LOC) (m:Nat) (v:AV),l[0]?=some (some (.ref i))→([(0,AV.int w),(1,.int (H:Int)),(2,.int (w^H)),(3,.int (kept.length:Int)),(4,.ref k)]:List (Nat×AV)).lookup m=some v→ev G (ae G W (n+1)) (.attr (.loc 0) m) l (h++g)=.ok v (h++g) :=
  fun g l m v hl hv=>fb (aa hl) (Lx g).inst (Lx g).flds hv
 have loop:=di (g:=Option.none) (step:=fun v ζ l' h'=>exec G (ae G W (n+1)) W (.seq (.asg 6 (.bool false)) (.seq (.ite (.and (.isC true (.loc 3) Option.none) (.cmp .gt (.call 2 (.cons (.attr (.loc 0) 0) (.cons (.attr (.loc 0) 1) (.cons (.loc 1) (.cons (.loc 3) .nil))))) (.loc 5)))
   (.seq (.asg 6 (.cmp .le (.call 2 (.cons (.attr (.loc 0) 0) (.cons (.attr (.loc 0) 1) (.cons (.loc 2) (.cons (.loc 3) .nil))))) (.loc 5))) .skip) .skip) (.seq (.ex (.bm .append (.loc 4) (.cons (.loc 6) .nil))) .skip))) (l'.set 5 (some v)) h')
  (fun j l' h'=>(Oz.E2 fun t u=>l'=[some (.ref i),some (oav b),some (.int N),some (oav a),some (.ref h.length),t,u])∧h'=h++[.list ((List.range j).map fun l=>.bool (bo a T2 T3 l))]∧j≤T) ((List.range T).map fun(k:Nat)=>AV.int (k:Int)) 0
  [some (.ref i),some (oav b),some (.int N),some (oav a),some (.ref h.length),Option.none,Option.none] (h++[.list []]) ⟨⟨_,_,rfl⟩,rfl,Nat.zero_le _⟩ (fun j v l' h' hj ⟨⟨t,u,hl⟩,hh,hjl⟩=>by
   subst hl; subst hh
   simp only [Nat.zero_add]
   have hj' : j<T:=by have:=(Oz.g4.mp hj).1; simpa using this
   have hv:v=.int j:=by
    rw [Oz.g12,List.getElem?_range hj'] at hj
    exact(Option.some.inj hj).symm
   subst hv
   have last:(h++[AO.list ((List.range j).map fun l=>.bool (bo a T2 T3 l))])[h.length]?=some (.list ((List.range j).map fun l=>.bool (bo a T2 T3 l))):=by simp
   have fin:∀ g,exec G (ae G W (n+1)) W (.seq (.ex (.bm .append (.loc 4) (.cons (.loc 6) .nil))) .skip) [some (.ref i),some (oav b),some (.int N),some (oav a),some (.ref h.length),some (.int j),some (.bool g)] (h++[.list ((List.range j).map fun l=>.bool (bo a T2 T3 l))]) =
     .next [some (.ref i),some (oav b),some (.int N),some (oav a),some (.ref h.length),some (.int j),some (.bool g)] (h++[.list ((List.range j).map (fun l=>.bool (bo a T2 T3 l))++[.bool g])]):=fun g=>by
    have:=af (ca (jd (G:=G) (cl:=ae G W (n+1)) (l:=[some (.ref i),some (oav b),some (.int N),some (oav a),some (.ref h.length),some (.int j),some (.bool g)]) (a:=.loc 4) (b:=.loc 6) (aa rfl) last (aa rfl) last (by simp [cb]; exact Oz.o343 hT13 hj'))) (ah (W:=W))
    rwa [List.set_append_right _ _ (Oz.g3 _),Nat.sub_self] at this
   have res:∀ g,g=bo a T2 T3 j→(h++[AO.list ((List.range j).map (fun l=>.bool (bo a T2 T3 l))++[.bool g])])=h++[.list ((List.range (j+1)).map fun l=>.bool (bo a T2 T3 l))]:=fun g hg=>by rw [hg,List.range_succ,List.map_append]; rfl
   refine⟨rfl,?_⟩
   cases a with
   | none =>
    refine⟨_,_,af (am jc) (af (ap (ij (jo (aa rfl))) ah) (fin false)),⟨_,_,rfl⟩,res _ rfl,by exact Oz.o266 hj'⟩
   | some y =>
    obtain⟨d1,d2⟩:=c2 y rfl
    have as1:=fun(l:LOC) (v v' : AV) (k k' : Nat) (h0:l[0]?=some (some (AV.ref i))) (hk:l[k]?=some (some v)) (hk' : l[k']?=some (some v'))=>ag (at_ [.list ((List.range j).map fun l=>.bool (bo (some y) T2 T3 l))] l 0 _ h0 rfl) (ag (at_ _ l 1 _ h0 rfl) (ag (aa hk) (ag (aa hk') aj)))
    have e1:ev G (ae G W (n+1)) (.cmp .gt (.call 2 (.cons (.attr (.loc 0) 0) (.cons (.attr (.loc 0) 1) (.cons (.loc 1) (.cons (.loc 3) .nil))))) (.loc 5)) [some (.ref i),some (oav b),some (.int N),some (.int y),some (.ref h.length),some (.int j),some (.bool false)] (h++[.list ((List.range j).map fun l=>.bool (bo (some y) T2 T3 l))])=.ok (.bool (decide ((j:Int)<(T2:Int)))) (h++[.list ((List.range j).map fun l=>.bool (bo (some y) T2 T3 l))]) :=
     az (ax (as1 _ (oav b) (.int y) 1 3 rfl rfl rfl) (d1 n _)) (aa rfl) vg
    have e2:ev G (ae G W (n+1)) (.cmp .le (.call 2 (.cons (.attr (.loc 0) 0) (.cons (.attr (.loc 0) 1) (.cons (.loc 2) (.cons (.loc 3) .nil))))) (.loc 5)) [some (.ref i),some (oav b),some (.int N),some (.int y),some (.ref h.length),some (.int j),some (.bool false)] (h++[.list ((List.range j).map fun l=>.bool (bo (some y) T2 T3 l))])=.ok (.bool (decide ((T3:Int)≤(j:Int)))) (h++[.list ((List.range j).map fun l=>.bool (bo (some y) T2 T3 l))]) :=
     az (ax (as1 _ (.int N) (.int y) 2 3 rfl rfl rfl) (d2 n _)) (aa rfl) vf
    by_cases q:j<T2
    ·rw [decide_eq_true (show(j:Int)<T2 by exact Oz.o256 q)] at e1
     refine⟨_,_,af (am jc) (af (be (b5 (qb (aa rfl)) e1) (af (am e2) ah)) (fin _)),⟨_,_,rfl⟩,res _ ?_,by exact Oz.o266 hj'⟩
     unfold bo
     rw [decide_eq_true q]
     simp
    ·rw [decide_eq_false (show ¬ (j:Int)<T2 by exact Oz.o261 q)] at e1
     refine⟨_,_,af (am jc) (af (ap (b5 (qb (aa rfl)) e1) ah) (fin false)),⟨_,_,rfl⟩,res _ ?_,Oz.o266 hj'⟩
     unfold bo
     rw [decide_eq_false q]
     simp) (fun ζ ζ ζ=>rfl)
 refine Oz.z fun ζ2 η2=>?_
 obtain⟨l',h',e,⟨t,u,hl⟩,hh,_⟩:=loop
 refine η2 ?_
 simp only [Oz.g13,List.length_range,Nat.zero_add] at hh
 subst hl; subst hh
 exact af (am (b3 aj rfl)) (af (ft (ag (ax (ag (at_ _ _ 0 _ rfl rfl) (ag (at_ _ _ 1 _ rfl rfl) (es2 rfl rfl))) (c1 n _)) aj) (if_pos (Oz.o344 hT13)) e) (av (bi (aa rfl))))
end
end Sk
namespace Sk
section
variable {G:Gl}{cl:CallO}{W:Nat}{l:LOC}{h h1 h2:HP}{a b c:CE}{x y:AV}
set_option tactic.hygienic true in
theorem re {e:CE}{n i c' d:Nat}{fs:List (Nat×AV)}(he:ev G cl e l h=.ok x h1) (ha:ev G cl a l h1=.ok (.ref i) h1) (hi:h1[i]?=some (.inst c' d)) (hd:h1[d]?=some (.fields fs)) (hz:fs.length<100) :
  exec G cl W (.setAttr a n e) l h=.next l (h1.set d (.fields (o0 n x fs))):=by
 show(ev G cl e l h).thn l _=_
 rw [he]
 show(ev G cl a l h1).thn l _=_
 rw [ha]
 have q:jr n (.ref i) x h1=.ok () (h1.set d (.fields (o0 n x fs))):=by
  unfold jr
  dsimp only
  rw [hi]
  dsimp only
  rw [hd]
  exact if_pos hz
 show(jr n (.ref i) x h1).thn l _=_
 rw [q]; rfl
theorem D4 {k₁ k₂ i:Nat}{e:CE}{bd:CS}{vs:List AV}{r:RS}(he:ev G cl e l h=.ok (.ref i) h1) (hi:h1[i]?=some (.list vs)) (hf:du (some (i,.list vs)) (fun v n l' h'=>exec G cl W bd ((l'.set k₁ (some (.int n))).set k₂ (some v)) h') vs 0 l h1=r):exec G cl W (.for2 k₁ k₂ e bd) l h=r:=by
 show(ev G cl e l h).thn l _=_
 rw [he]
 show(match (match h1[i]? with | some (.list vs)=>some (vs,some (i,AO.list vs)) | _=>Option.none:Option (List AV×Grd)) with
  | some (items,g)=>du g (fun v n l' h'=>exec G cl W bd ((l'.set k₁ (some (.int n))).set k₂ (some v)) h') items 0 l h1
  | Option.none=>.err)=_
 rw [hi]; exact hf
theorem H7 {q p:Nat}{vs:List AV}(ha:ev G cl a l h=.ok (.ref q) h) (hq:h[q]?=some (.list vs)) (hb:ev G cl b l h=.ok (.int (p:Nat)) h) (hc:ev G cl c l h=.ok y h) (hp:p≤vs.length) (hz:cb vs.length=true) :
  ev G cl (.bm .insert a (.cons b (.cons c .nil))) l h=.ok .none (h.set q (.list (vs.take p++y::vs.drop p))):=by
 show(ev G cl a l h).bind _=_
 rw [ha]
 have k:dz .insert (.ref q) h=true:=by unfold dz; dsimp only; rw [hq]
 show(if dz .insert (.ref q) h then (evs G cl (.cons b (.cons c .nil)) l h).bind fun vs h₂=>tg .insert (.ref q) vs h₂ else .err)=_
 rw [if_pos k,ag hb (ag hc aj)]
 show((h[q]?).bind iv).elim .err (fun vs=>if (0≤(p:Int)∧(p:Int)≤vs.length)∧cb vs.length then R.ok AV.none (h.set q (.list (vs.take (p:Int).toNat++y::vs.drop (p:Int).toNat))) else .err)=_
 rw [hq]
 exact if_pos ⟨⟨Oz.o205,Oz.o330 hp⟩,hz⟩
theorem Ks {q p:Nat}{vs:List AV}(ha:ev G cl a l h=.ok (.ref q) h) (hq:h[q]?=some (.list vs)) (hb:ev G cl b l h=.ok (.int (p:Nat)) h) (hp:vs[p]?=some y) :
  ev G cl (.bm .popAt a (.cons b .nil)) l h=.ok y (h.set q (.list (vs.eraseIdx p))):=by
 show(ev G cl a l h).bind _=_
 rw [ha]
 have k:dz .popAt (.ref q) h=true:=by unfold dz; dsimp only; rw [hq]
 show(if dz .popAt (.ref q) h then (evs G cl (.cons b .nil) l h).bind fun vs h₂=>tg .popAt (.ref q) vs h₂ else .err)=_
 rw [if_pos k,ag hb aj]
 show tg .popAt (.ref q) [.int (p:Nat)] h=_
 have hl:=(Oz.g4.mp hp).1
 show((h[q]?).bind iv).elim .err (fun vs=>if 0≤(p:Int)∧(p:Int)<vs.length then (match vs[(p:Int).toNat]? with
   | some v=>R.ok v (h.set q (.list (vs.eraseIdx (p:Int).toNat)))
   | Option.none=>.err) else .err)=_
 rw [hq]
 show(if 0≤(p:Int)∧(p:Int)<vs.length then (match vs[(p:Int).toNat]? with
   | some v=>R.ok v (h.set q (.list (vs.eraseIdx (p:Int).toNat)))
   | Option.none=>.err) else .err)=_
 rw [if_pos ⟨Oz.o205,Oz.o256 hl⟩,Int.toNat_natCast,hp]
theorem Jw {α:Type}{h r:List α}{u v v' : α}:(h++u::v::r).set (h.length+1) v'=h++u::v'::r:=by
 rw [List.set_append_right _ _ (Oz.o192),Nat.add_sub_cancel_left]; rfl
theorem jb {α:Type}{h r:List α}{j:Nat}:(h++r)[h.length+j]?=r[j]? := by
 rw [Oz.g29 (Oz.o124),Nat.add_sub_cancel_left]
theorem ak {α:Type}{h r:List α}:(h++r)[h.length]?=r[0]? := jb (j:=0)
end
noncomputable def Ay (X:CS):CS:=(.seq (.ite (.or (.not (.chain (.int 2) .le (.loc 1) .le (.int 9))) (.not (.chain (.int 1) .le (.loc 2) .le (.int 12)))) (.seq X .skip) .skip) (.seq (.setAttr (.loc 0) 0 (.loc 1)) (.seq (.setAttr (.loc 0) 1 (.loc 2))
 (.seq (.setAttr (.loc 0) 2 (.call 0 (.cons (.loc 1) (.cons (.loc 2) .nil)))) (.seq (.setAttr (.loc 0) 3 (.int 0)) (.seq (.setAttr (.loc 0) 4 (.list .nil)) .skip))))))
noncomputable def Md:CS:=(.seq (.ite (.loc 6) (.seq (.ex (.bm .append (.loc 4) (.cons (.tup (.cons (.loc 5) (.cons (.loc 1) (.cons (.item (.loc 3) (.int 1)) .nil)))) .nil))) .skip)
   (.seq (.ex (.bm .append (.loc 4) (.cons (.tup (.cons (.loc 5) (.cons (.loc 1) (.cons .none .nil)))) .nil))) .skip)) .skip)
noncomputable def Ix:CS:=(.seq (.ite (.loc 6) (.seq (.ex (.bm .append (.loc 4) (.cons (.tup (.cons (.loc 5) (.cons (.item (.loc 3) (.int 1)) (.cons (.loc 1) .nil)))) .nil))) .skip)
   (.seq (.ex (.bm .append (.loc 4) (.cons (.tup (.cons (.loc 5) (.cons .none (.cons (.loc 1) .nil)))) .nil))) .skip)) .skip)
noncomputable def zj (X:CS):CS:=(.seq (.ite (.meth (.loc 0) 5 (.cons (.loc 1) .nil)) (.seq X .skip) .skip) (.seq (.asg 2 (.meth (.loc 0) 2 (.cons (.loc 1) .nil))) (.seq (.asg 3 (.meth (.loc 0) 3 (.cons (.loc 2) (.cons (.loc 2) .nil)))) (.seq (.asg 4 (.list .nil))
 (.seq (.for2 5 6 (.meth (.loc 0) 4 (.cons (.item (.loc 3) (.int 0)) (.cons (.loc 1) (.cons (.item (.loc 3) (.int 1)) .nil)))) Md)
 (.seq (.ex (.bm .insert (.attr (.loc 0) 4) (.cons (.loc 2) (.cons (.loc 1) .nil)))) (.seq (.setAttr (.loc 0) 3 (.bin .add (.attr (.loc 0) 3) (.int 1))) (.seq (.ret (.loc 4)) .skip))))))))
noncomputable def wa (X:CS):CS:=(.seq (.ite (.not (.meth (.loc 0) 5 (.cons (.loc 1) .nil))) (.seq X .skip) .skip) (.seq (.asg 2 (.meth (.loc 0) 2 (.cons (.loc 1) .nil))) (.seq (.asg 3 (.meth (.loc 0) 3 (.cons (.loc 2) (.cons (.bin .add (.loc 2) (.int 1)) .nil)))) (.seq (.asg 4 (.list .nil))
 (.seq (.for2 5 6 (.meth (.loc 0) 4 (.cons (.item (.loc 3) (.int 0)) (.cons (.loc 1) (.cons (.item (.loc 3) (.int 1)) .nil)))) Ix)
 (.seq (.ex (.bm .popAt (.attr (.loc 0) 4) (.cons (.loc 2) .nil))) (.seq (.setAttr (.loc 0) 3 (.bin .sub (.attr (.loc 0) 3) (.int 1))) (.seq (.ret (.loc 4)) .skip))))))))
structure LG (G:Gl) (X:CS):Prop where
 power:G.fns 0=some ⟨2,4,jh⟩
 tall:G.fns 2=some ⟨4,6,v9⟩
 need:G.fns 4=some ⟨3,3,rx X⟩
 lesser:G.fns 5=some ⟨2,5,n5⟩
 neighbours:G.fns 6=some ⟨3,5,nz⟩
 leaving:G.fns 7=some ⟨4,7,ry⟩
 has:G.fns 8=some ⟨2,2,zk⟩
 m1:G.meth 0 1=some 4
 m2:G.meth 0 2=some 5
 m3:G.meth 0 3=some 6
 m4:G.meth 0 4=some 7
 m5:G.meth 0 5=some 8
structure Ok (w:Int) (H:Nat) (kept:List Int) (W:Nat):Prop where
 w2:2≤w
 w9:w≤9
 h1:1≤H
 h12:H≤12
 srt:kept.Pairwise (·<·)
 rng:∀ y∈kept,0≤y∧y<w^H
 few:kept.length+14<W
 top:kept.length≤99999
structure Told (h' : HP) (at_ T:Nat) (mk:Nat→List AV):Prop where
 refs:h'[at_+1]?=some (.list ((List.range T).map fun l=>.ref (at_+3+l)))
 tups:∀ l,l<T→h'[at_+3+l]?=some (.tup (mk l))
noncomputable def mu (h:HP) (pr:List AV) (T j:Nat) (go:Nat→Bool) (mk:Nat→Bool→List AV):HP :=
 h++((.tup pr::.list ((List.range j).map fun l=>.ref (h.length+3+l))::.list ((List.range T).map fun l=>.bool (go l))::(List.range j).map fun l=>.tup (mk l (go l))):List AO)
section
variable {G:Gl}{W n:Nat}{h:HP}{i d k:Nat}{w:Int}{H:Nat}{kept:List Int}{X:CS}
set_option tactic.hygienic true in
theorem xw {cl:CallO}{bd:CS}{N:Int}{p:AV}{pr:List AV}{T:Nat}{go:Nat→Bool}{mk:Nat→Bool→List AV}(hT:T≤13)
  (hb:∀ (j:Nat) (g:Bool) (h' : HP) (refs:List AV),h'[h.length]?=some (.tup pr)→h'[h.length+1]?=some (.list refs)→refs.length≤13→exec G cl W bd [some (.ref i),some (.int N),some p,some (.ref h.length),some (.ref (h.length+1)),some (.int (j:Nat)),some (.bool g)] h' =
   .next [some (.ref i),some (.int N),some p,some (.ref h.length),some (.ref (h.length+1)),some (.int (j:Nat)),some (.bool g)] ((h'++[AO.tup (mk j g)]).set (h.length+1) (AO.list (refs++[AV.ref h'.length])))) :
  Oz.E2 fun t u=>du (some (h.length+2,.list ((List.range T).map fun l=>.bool (go l)))) (fun v n l' h'=>exec G cl W bd ((l'.set 5 (some (.int n))).set 6 (some v)) h') ((List.range T).map fun l=>.bool (go l)) 0
   [some (.ref i),some (.int N),some p,some (.ref h.length),some (.ref (h.length+1)),Option.none,Option.none] (h++([.tup pr,.list [],.list ((List.range T).map fun l=>.bool (go l))]:List AO)) =
   .next [some (.ref i),some (.int N),some p,some (.ref h.length),some (.ref (h.length+1)),t,u] (mu h pr T T go mk):=by
 have loop:=di (g:=some (h.length+2,.list ((List.range T).map fun l=>.bool (go l)))) (step:=fun v n l' h'=>exec G cl W bd ((l'.set 5 (some (.int n))).set 6 (some v)) h')
  (fun j l' h'=>(Oz.E2 fun t u=>l'=[some (.ref i),some (.int N),some p,some (.ref h.length),some (.ref (h.length+1)),t,u])∧h'=mu h pr T j go mk∧j≤T)
  ((List.range T).map fun l=>.bool (go l)) 0 [some (.ref i),some (.int N),some p,some (.ref h.length),some (.ref (h.length+1)),Option.none,Option.none] (h++([.tup pr,.list [],.list ((List.range T).map fun l=>.bool (go l))]:List AO)) ⟨⟨_,_,rfl⟩,rfl,Nat.zero_le _⟩ (fun j v l' h' hj ⟨⟨t,u,hl⟩,hh,hjl⟩=>by
   simp only [Nat.zero_add] at hh hjl ⊢
   have hj' : j<T:=by have:=(Oz.g4.mp hj).1; simpa using this
   have hv:v=.bool (go j):=by
    rw [Oz.g12,List.getElem?_range hj'] at hj
    exact(Option.some.inj hj).symm
   subst hv
   refine⟨b4 (by rw [hh]; exact jb),?_⟩
   have e:=hb j (go j) h' ((List.range j).map fun l=>.ref (h.length+3+l)) (by rw [hh]; exact ak) (by rw [hh]; exact jb) (by simp; exact Oz.o444 hT hj')
   have hlen:h'.length=h.length+3+j:=by rw [hh]; unfold mu; simp; exact Oz.o445
   refine⟨_,_,by rw [hl]; exact e,⟨_,_,rfl⟩,?_,Oz.o266 hj'⟩
   rw [hlen,hh]
   unfold mu
   rw [Oz.g19,List.cons_append,List.cons_append,Jw,List.range_succ,List.map_append,List.map_append]
   rfl) (fun l h' ⟨_,hh,_⟩=>b4 (by rw [hh]; exact jb))
 refine Oz.z fun ζ η=>?_
 obtain⟨l',h',e,⟨t,u,hl⟩,hh,_⟩:=loop
 refine η ?_
 simp only [Oz.g13,List.length_range,Nat.zero_add] at hh
 rw [hl,hh] at e
 exact⟨t,u,e⟩
end
end Sk
namespace Sk
theorem Ext.set {S:List Nat}{h:HP}{q:Nat}{o:AO}(hq:q∈S):Ext S h (h.set q o):=⟨by simp,fun j ζ hj=>Oz.g21 (fun e=>hj (by rw [← e]; exact hq))⟩
theorem yj:∀ (l:List Int) (p:Nat),(l.map AV.int).eraseIdx p=(l.eraseIdx p).map .int
 | [],_=>rfl
 | _::_,0=>rfl
 | a::r,p+1=>congrArg (AV.int a::·) (yj r p)
theorem au {h:HP}{j:Nat}{o:AO}(e:h[j]?=some o):j<h.length:=(Oz.g4.mp e).1
theorem qo {h:HP}{j:Nat}{o o' : AO}(e:h[j]?=some o):(h.set j o')[j]?=some o' := by rw [List.getElem?_set_self (au e)]
section
variable {h:HP}{i d k:Nat}{w:Int}{H:Nat}{kept:List Int}
theorem Lad.nik (L:Lad h i d k w H kept):i≠k:=fun e=>by have:=L.inst; rw [e,L.list] at this; cases this
theorem Lad.nid (L:Lad h i d k w H kept):i≠d:=fun e=>by have:=L.inst; rw [e,L.flds] at this; cases this
theorem Lad.ndk (L:Lad h i d k w H kept):d≠k:=fun e=>by have:=L.flds; rw [e,L.list] at this; cases this
theorem Lad.upd (L:Lad h i d k w H kept){kept' : List Int}{kl:List AV}{c:Int}(hk:kl=kept'.map .int) (hc:c=kept'.length):Lad ((h.set k (.list kl)).set d (.fields [(0,.int w),(1,.int (H:Int)),(2,.int (w^H)),(3,.int c),(4,.ref k)])) i d k w H kept' := by
 subst hk; subst hc
 refine⟨?_,?_,?_⟩
 ·rw [Oz.g21 L.nid.symm,Oz.g21 L.nik.symm]; exact L.inst
 ·exact qo ((Oz.g21 L.ndk.symm).trans L.flds)
 ·rw [Oz.g21 L.ndk]; exact qo L.list
end
section
variable {G:Gl}{W n:Nat}{h:HP}{i d k:Nat}{w:Int}{H:Nat}{kept:List Int}{X Y:CS}
theorem on {pr:List AV}{T j:Nat}{go:Nat→Bool}{mk:Nat→Bool→List AV}{S:List Nat}:Ext S h (mu h pr T j go mk):=Ext.app
theorem vm {pr:List AV}{T:Nat}{go:Nat→Bool}{mk:Nat→Bool→List AV}:Told (mu h pr T T go mk) h.length T (fun l=>mk l (go l)):=by
 refine⟨jb,fun l hl=>?_⟩
 rw [Nat.add_assoc]
 unfold mu
 rw [jb,show 3+l=l+1+1+1 by exact Oz.o394,List.getElem?_cons_succ,List.getElem?_cons_succ,List.getElem?_cons_succ,Oz.g12,List.getElem?_range hl]
 rfl
theorem Told.set {h' : HP}{a T q:Nat}{mk:Nat→List AV}{o:AO}(t:Told h' a T mk) (hq:q<a):Told (h'.set q o) a T mk :=
 ⟨(Oz.g21 (Oz.o395 hq)).trans t.refs,fun l hl=>(Oz.g21 (Oz.o396 hq)).trans (t.tups l hl)⟩
theorem pr0 {h' : HP}{q:Nat}{x y:AV}(e:h'[q]?=some (.tup [x,y])):dh (.ref q) (.int 0) h'=.ok x h' := pg (k:=0) e rfl
theorem pr1 {h' : HP}{q:Nat}{x y:AV}(e:h'[q]?=some (.tup [x,y])):dh (.ref q) (.int 1) h'=.ok y h' := pg (k:=1) e rfl
theorem Iy {N:Int}(g:LG G X) (hP:G.fns 9=some ⟨2,7,zj Y⟩) (L:Lad h i d k w H kept) (ok:Ok w H kept W) (h0:0≤N) (h1:N<w^H) (hn:N∉kept):Oz.E5 fun p T T2 T3 h'=>Pl kept N p∧fz w H (bef kept p) N T∧(∀ y,kept[p]?=some y→fz w H (bef kept p) y T2∧Met w N y H T3) ∧
  ae G W (n+3) 9 [.ref i,.int N] h=.ok (.ref (h.length+1)) h'∧Lad h' i d k w H (kept.take p++N::kept.drop p)∧Ext [d,k] h h'∧Told h' h.length T (fun l=>[.int (l:Nat),.int N,bif bo kept[p]? T2 T3 l then oav kept[p]? else .none]):=by
 have hs:=ua (W:=W) (n:=n) (v:=N) g.has g.need g.m1 L h0 h1
 rw [decide_eq_false hn] at hs
 refine Oz.z fun ζ η=>?_
 obtain⟨p,hp,ls⟩:=jn (W:=W) (n:=n+1) (v:=N) g.lesser L ok.srt (by have:=ok.few; exact Oz.o240 this)
 have nb:=rt (W:=W) (n:=n+1) (p:=p) (q:=p) g.neighbours L hp.le
 have L2:Lad (h++[.tup [oav (bef kept p),oav kept[p]?],.list []]) i d k w H kept:=L.ext (Ext.app (S:=[])) Oz.g0 Oz.g0 Oz.g0
 obtain⟨T,T2,T3,t1,t2,lv⟩:=yg (W:=W) (n:=n) (b:=bef kept p) (a:=kept[p]?) (N:=N) g.leaving g.tall L2 ok.w2 ok.w9 ok.h12 (by have:=ok.few; exact Oz.o397 this)
 have hT:T≤13:=by have:=t1.le; have:=ok.h12; exact Oz.o398 ‹_› this
 have e3:(h++[AO.tup [oav (bef kept p),oav kept[p]?],.list []]).length=h.length+2:=by simp
 rw [e3,Oz.g19] at lv
 obtain⟨t,u,lp⟩:=xw (G:=G) (W:=W) (h:=h) (i:=i) (cl:=ae G W (n+2)) (bd:=Md) (N:=N) (p:=.int (p:Nat)) (pr:=[oav (bef kept p),oav kept[p]?]) (T:=T) (go:=bo kept[p]? T2 T3) (mk:=fun l b=>[.int (l:Nat),.int N,bif b then oav kept[p]? else .none]) hT
  (fun j gg h' refs hpr hrf hz=>by
   have sz:cb refs.length=true:=decide_eq_true (Oz.o399 hz)
   cases gg with
   | true=>exact af (be (aa rfl) (af (ca (jd (aa rfl) hrf (j7 (ag (aa rfl) (ag (aa rfl) (ag (bc (aa rfl) ai (pr1 hpr)) aj))) rfl) (Ext.app.get (S:=[]) hrf Oz.g0) sz)) ah)) ah
   | false=>exact af (ap (aa rfl) (af (ca (jd (aa rfl) hrf (j7 (ag (aa rfl) (ag (aa rfl) (ag cw aj))) rfl) (Ext.app.get (S:=[]) hrf Oz.g0) sz)) ah)) ah)
 obtain⟨hA,hhA⟩:∃ hA,hA=mu h [oav (bef kept p),oav kept[p]?] T T (bo kept[p]? T2 T3) (fun l b=>[.int (l:Nat),.int N,bif b then oav kept[p]? else .none]):=⟨_,rfl⟩
 refine η ?_
 rw [← hhA] at lp
 have xA:Ext [d,k] h hA:=hhA ▸ on
 have LA:Lad hA i d k w H kept:=L.ext (hhA ▸ on (S:=[])) Oz.g0 Oz.g0 Oz.g0
 have tA:Told hA h.length T (fun l=>[.int (l:Nat),.int N,bif bo kept[p]? T2 T3 l then oav kept[p]? else .none]):=hhA ▸ vm
 refine⟨p,T,T2,T3,_,hp,t1,t2,bj hP rfl ?_,LA.upd (kept' := kept.take p++N::kept.drop p) (kl:=(kept.map .int).take p++.int N::(kept.map .int).drop p) (c:=kept.length+1) (by simp) (by simp; exact Oz.o400),(xA.trans (Ext.set (by simp))).trans (Ext.set (by simp)),(tA.set (au L.list)).set (au L.flds)⟩
 have LB:(hA.set k (.list ((kept.map .int).take p++.int N::(kept.map .int).drop p)))[i]?=some (.inst 0 d):=(Oz.g21 LA.nik.symm).trans LA.inst
 have LC:(hA.set k (.list ((kept.map .int).take p++.int N::(kept.map .int).drop p)))[d]?=some (.fields [(0,.int w),(1,.int (H:Int)),(2,.int (w^H)),(3,.int (kept.length:Int)),(4,.ref k)]):=(Oz.g21 LA.ndk.symm).trans LA.flds
 have L1:Lad (h++[.tup [oav (bef kept p),oav kept[p]?]]) i d k w H kept:=L.ext (Ext.app (S:=[])) Oz.g0 Oz.g0 Oz.g0
 have e1:(h++[AO.tup [oav (bef kept p),oav kept[p]?]]).length=h.length+1:=by simp
 have prA:(h++[AO.tup [oav (bef kept p),oav kept[p]?],.list []])[h.length]?=some (.tup [oav (bef kept p),oav kept[p]?]):=ak
 have mkl:ev G (ae G W (n+2)) (.list .nil) [some (.ref i),some (.int N),some (.int (p:Nat)),some (.ref h.length),Option.none,Option.none,Option.none] (h++[.tup [oav (bef kept p),oav kept[p]?]])=.ok (.ref (h.length+1)) (h++[.tup [oav (bef kept p),oav kept[p]?],.list []]):=by
  have:=b3 (G:=G) (cl:=ae G W (n+2)) (l:=[some (.ref i),some (.int N),some (.int (p:Nat)),some (.ref h.length),Option.none,Option.none,Option.none]) (h:=h++[.tup [oav (bef kept p),oav kept[p]?]]) (es:=.nil) aj rfl
  rw [e1,Oz.g19] at this; exact this
 have lv' : ev G (ae G W (n+2)) (.meth (.loc 0) 4 (.cons (.item (.loc 3) (.int 0)) (.cons (.loc 1) (.cons (.item (.loc 3) (.int 1)) .nil)))) [some (.ref i),some (.int N),some (.int (p:Nat)),some (.ref h.length),some (.ref (h.length+1)),Option.none,Option.none] (h++[.tup [oav (bef kept p),oav kept[p]?],.list []])=.ok (.ref (h.length+2)) (h++[.tup [oav (bef kept p),oav kept[p]?],.list [],.list ((List.range T).map fun l=>.bool (bo kept[p]? T2 T3 l))]) :=
  L2.em rfl g.m4 (ag (bc (aa rfl) ai (pr0 prA)) (ag (aa rfl) (ag (bc (aa rfl) ai (pr1 prA)) aj))) lv
 have hz:cb (kept.map AV.int).length=true:=by rw [Oz.g13]; exact decide_eq_true (by have:=ok.top; exact Oz.o253 this)
 refine af (ap (L.em rfl g.m5 (es1 rfl) hs) ah) (af (am (L.em rfl g.m2 (es1 rfl) ls)) (af (am (L.em rfl g.m3 (es2 rfl rfl) nb)) (af (am mkl) (af (D4 lv' jb lp) (af (ca (H7 (LA.ea rfl rfl) LA.list (aa rfl) (aa rfl) (by rw [Oz.g13]; exact hp.le) hz))
  (af (re (aq (fb (aa rfl) LB LC rfl) ai b8) (aa rfl) LB LC (show 5<100 by decide)) (av (bi (aa rfl)))))))))
theorem E1 {N:Int}{p:Nat}(g:LG G X) (hP:G.fns 10=some ⟨2,7,wa Y⟩) (L:Lad h i d k w H kept) (ok:Ok w H kept W) (hn:kept[p]?=some N):Oz.E4 fun T T2 T3 h'=>fz w H (bef kept p) N T∧(∀ y,kept[p+1]?=some y→fz w H (bef kept p) y T2∧Met w N y H T3) ∧
  ae G W (n+3) 10 [.ref i,.int N] h=.ok (.ref (h.length+1)) h'∧Lad h' i d k w H (kept.eraseIdx p)∧Ext [d,k] h h'∧Told h' h.length T (fun l=>[.int (l:Nat),bif bo kept[p+1]? T2 T3 l then oav kept[p+1]? else .none,.int N]):=by
 have hm:N∈kept:=Oz.g16 hn
 refine Oz.z fun ζ η=>?_
 obtain⟨h0,h1⟩:=ok.rng N hm
 have hs:=ua (W:=W) (n:=n) (v:=N) g.has g.need g.m1 L h0 h1
 rw [decide_eq_true hm] at hs
 obtain⟨p',hp,ls⟩:=jn (W:=W) (n:=n+1) (v:=N) g.lesser L ok.srt (by have:=ok.few; exact Oz.o240 this)
 have hlt:=(Oz.g4.mp hn).1
 have hpp:p'=p:=by
  rcases Nat.lt_trichotomy p' p with q | q | q
  ·obtain⟨y,hy⟩:∃ y,kept[p']?=some y:=⟨_,Oz.g10 (Oz.o401 hlt q)⟩
   have a1:=hp.hi p' y (Oz.g3 _) hy
   obtain⟨b1,c1⟩:=Oz.g4.mp hy
   obtain⟨b2,c2⟩:=Oz.g4.mp hn
   have:=Oz.g30.mp ok.srt p' p b1 b2 q
   exact Oz.o402 a1 c1 c2 this
  ·exact q
  ·have:=hp.lo p N q hn; exact Oz.o403 this
 subst hpp
 have nb:=rt (W:=W) (n:=n+1) (p:=p') (q:=p'+1) g.neighbours L hp.le
 have L2:Lad (h++[.tup [oav (bef kept p'),oav kept[p'+1]?],.list []]) i d k w H kept:=L.ext (Ext.app (S:=[])) Oz.g0 Oz.g0 Oz.g0
 obtain⟨T,T2,T3,t1,t2,lv⟩:=yg (W:=W) (n:=n) (b:=bef kept p') (a:=kept[p'+1]?) (N:=N) g.leaving g.tall L2 ok.w2 ok.w9 ok.h12 (by have:=ok.few; exact Oz.o397 this)
 have hT:T≤13:=by have:=t1.le; have:=ok.h12; exact Oz.o398 ‹_› this
 have e3:(h++[AO.tup [oav (bef kept p'),oav kept[p'+1]?],.list []]).length=h.length+2:=by simp
 rw [e3,Oz.g19] at lv
 obtain⟨t,u,lp⟩:=xw (G:=G) (W:=W) (h:=h) (i:=i) (cl:=ae G W (n+2)) (bd:=Ix) (N:=N) (p:=.int (p' : Nat)) (pr:=[oav (bef kept p'),oav kept[p'+1]?]) (T:=T) (go:=bo kept[p'+1]? T2 T3) (mk:=fun l b=>[.int (l:Nat),bif b then oav kept[p'+1]? else .none,.int N]) hT
  (fun j gg h' refs hpr hrf hz=>by
   have sz:cb refs.length=true:=decide_eq_true (Oz.o399 hz)
   cases gg with
   | true=>exact af (be (aa rfl) (af (ca (jd (aa rfl) hrf (j7 (ag (aa rfl) (ag (bc (aa rfl) ai (pr1 hpr)) (es1 rfl))) rfl) (Ext.app.get (S:=[]) hrf Oz.g0) sz)) ah)) ah
   | false=>exact af (ap (aa rfl) (af (ca (jd (aa rfl) hrf (j7 (ag (aa rfl) (ag cw (es1 rfl))) rfl) (Ext.app.get (S:=[]) hrf Oz.g0) sz)) ah)) ah)
 obtain⟨hA,hhA⟩:∃ hA,hA=mu h [oav (bef kept p'),oav kept[p'+1]?] T T (bo kept[p'+1]? T2 T3) (fun l b=>[.int (l:Nat),bif b then oav kept[p'+1]? else .none,.int N]):=⟨_,rfl⟩
 refine η ?_
 rw [← hhA] at lp
 have xA:Ext [d,k] h hA:=hhA ▸ on
 have LA:Lad hA i d k w H kept:=L.ext (hhA ▸ on (S:=[])) Oz.g0 Oz.g0 Oz.g0
 have tA:Told hA h.length T (fun l=>[.int (l:Nat),bif bo kept[p'+1]? T2 T3 l then oav kept[p'+1]? else .none,.int N]):=hhA ▸ vm
 refine⟨T,T2,T3,_,t1,t2,bj hP rfl ?_,LA.upd (kept' := kept.eraseIdx p') (kl:=(kept.map .int).eraseIdx p') (c:=kept.length - 1) (yj kept p') (by rw [List.length_eraseIdx_of_lt hlt]; exact Oz.o258 hlt),(xA.trans (Ext.set (by simp))).trans (Ext.set (by simp)),(tA.set (au L.list)).set (au L.flds)⟩
 have LB:(hA.set k (.list ((kept.map .int).eraseIdx p')))[i]?=some (.inst 0 d):=(Oz.g21 LA.nik.symm).trans LA.inst
 have LC:(hA.set k (.list ((kept.map .int).eraseIdx p')))[d]?=some (.fields [(0,.int w),(1,.int (H:Int)),(2,.int (w^H)),(3,.int (kept.length:Int)),(4,.ref k)]):=(Oz.g21 LA.ndk.symm).trans LA.flds
 have e1:(h++[AO.tup [oav (bef kept p'),oav kept[p'+1]?]]).length=h.length+1:=by simp
 have prA:(h++[AO.tup [oav (bef kept p'),oav kept[p'+1]?],.list []])[h.length]?=some (.tup [oav (bef kept p'),oav kept[p'+1]?]):=ak
 have mkl:ev G (ae G W (n+2)) (.list .nil) [some (.ref i),some (.int N),some (.int (p' : Nat)),some (.ref h.length),Option.none,Option.none,Option.none] (h++[.tup [oav (bef kept p'),oav kept[p'+1]?]])=.ok (.ref (h.length+1)) (h++[.tup [oav (bef kept p'),oav kept[p'+1]?],.list []]):=by
  have:=b3 (G:=G) (cl:=ae G W (n+2)) (l:=[some (.ref i),some (.int N),some (.int (p' : Nat)),some (.ref h.length),Option.none,Option.none,Option.none]) (h:=h++[.tup [oav (bef kept p'),oav kept[p'+1]?]]) (es:=.nil) aj rfl
  rw [e1,Oz.g19] at this; exact this
 have lv' : ev G (ae G W (n+2)) (.meth (.loc 0) 4 (.cons (.item (.loc 3) (.int 0)) (.cons (.loc 1) (.cons (.item (.loc 3) (.int 1)) .nil)))) [some (.ref i),some (.int N),some (.int (p' : Nat)),some (.ref h.length),some (.ref (h.length+1)),Option.none,Option.none] (h++[.tup [oav (bef kept p'),oav kept[p'+1]?],.list []])=.ok (.ref (h.length+2)) (h++[.tup [oav (bef kept p'),oav kept[p'+1]?],.list [],.list ((List.range T).map fun l=>.bool (bo kept[p'+1]? T2 T3 l))]) :=
  L2.em rfl g.m4 (ag (bc (aa rfl) ai (pr0 prA)) (ag (aa rfl) (ag (bc (aa rfl) ai (pr1 prA)) aj))) lv
 refine af (ap (dw (L.em rfl g.m5 (es1 rfl) hs)) ah) (af (am (L.em rfl g.m2 (es1 rfl) ls)) (af (am (L.em rfl g.m3 (ag (aa rfl) (ag (aq (aa rfl) ai b8) aj)) nb)) (af (am mkl) (af (D4 lv' jb lp) (af (ca (Ks (LA.ea rfl rfl) LA.list (aa rfl) (by rw [Oz.g12,hn]; rfl)))
  (af (re (aq (fb (aa rfl) LB LC rfl) ai fj) (aa rfl) LB LC (show 5<100 by decide)) (av (bi (aa rfl)))))))))
end
end Sk
namespace Sk
noncomputable def dg (P:Int):Option Int→Int→Bool
 | Option.none,_=>true
 | some y,x=>!decide (y.fdiv P=x.fdiv P)
noncomputable def ay (P:Int):Option Int→List Int→List Int
 | _,[]=>[]
 | pv,x::r=>bif dg P pv x then x::ay P (some x) r else ay P (some x) r
noncomputable def cz:Option Int→List Int→Option Int
 | pv,[]=>pv
 | _,x::r=>cz (some x) r
theorem jx {P:Int}:∀ (l m:List Int) (pv:Option Int),ay P pv (l++m)=ay P pv l++ay P (cz pv l) m
 | [],m,pv=>rfl
 | x::l,m,pv=>by
  show(bif dg P pv x then x::ay P (some x) (l++m) else ay P (some x) (l++m))=(bif dg P pv x then x::ay P (some x) l else ay P (some x) l)++ay P (cz (some x) l) m
  rw [jx l m (some x)]
  cases dg P pv x <;> rfl
theorem C6 {P:Int}:∀ (l:List Int) (x:Int),Oz.E2 fun z y=>ay P Option.none (x::l)=z++[y]∧∀ u,cz Option.none (x::l)=some u→y.fdiv P=u.fdiv P:=by
 have key:∀ (l:List Int) (acc:List Int) (y v:Int),y.fdiv P=v.fdiv P→Oz.E2 fun z y'=>acc++[y]++ay P (some v) l=z++[y']∧∀ u,cz (some v) l=some u→y'.fdiv P=u.fdiv P:=by
  intro l
  induction l with
  | nil=>exact fun acc y v hv=>⟨acc,y,by simp [ay],fun u hu=>by cases hu; exact hv⟩
  | cons x r ih =>
   intro acc y v hv
   show Oz.E2 fun z y'=>acc++[y]++(bif dg P (some v) x then x::ay P (some x) r else ay P (some x) r)=_∧_
   cases q:dg P (some v) x with
   | true =>
    obtain⟨z,y',e1,e2⟩:=ih (acc++[y]) x x rfl
    refine⟨z,y',?_,e2⟩
    rw [← e1]; simp
   | false =>
    have:v.fdiv P=x.fdiv P:=by
     have q:(!decide (v.fdiv P=x.fdiv P))=false:=q
     simpa using q
    exact ih acc y x (hv.trans this)
 intro l x
 exact key l [] x x rfl
theorem xy {P:Int}:∀ (l:List Int) (pv:Option Int),(ay P pv l).length≤l.length
 | [],_=>Oz.g3 _
 | x::r,pv=>by
  show(bif dg P pv x then x::ay P (some x) r else ay P (some x) r).length≤_
  have:=xy (P:=P) r (some x)
  cases dg P pv x <;> simp <;> (first | exact Oz.o439 this | exact Oz.o16 this)
theorem lf:∀ (l:List Int) (x:Int) (pv:Option Int),cz pv (l++[x])=some x
 | [],_,_=>rfl
 | _::l,x,_=>lf l x _
noncomputable def i1:CS:=(.seq (.asg 3 (.call 0 (.cons (.loc 0) (.cons (.loc 1) .nil)))) (.seq (.asg 4 (.list .nil)) (.seq (.for1 5 .val (.cons (.loc 2) .nil)
  (.seq (.ite (.or (.cmp .eq (.loc 4) (.list .nil)) (.cmp .ne (.bin .fdiv (.item (.loc 4) (.neg (.int 1))) (.loc 3)) (.bin .fdiv (.loc 5) (.loc 3)))) (.seq (.ex (.bm .append (.loc 4) (.cons (.loc 5) .nil))) .skip) .skip) .skip)) (.seq (.ret (.loc 4)) .skip))))
noncomputable def nf (X:CS):CS:=(.seq (.ite (.not (.chain (.int 0) .le (.loc 1) .le (.attr (.loc 0) 1))) (.seq X .skip) .skip) (.seq (.ret (.call 1 (.cons (.attr (.loc 0) 0) (.cons (.loc 1) (.cons (.attr (.loc 0) 4) .nil))))) .skip))
section
variable {G:Gl}{W n:Nat}{h:HP}{i d k:Nat}{w:Int}{H:Nat}{kept:List Int}{X:CS}
theorem Du {cl:CallO}{l:LOC}{a:CE}{v:Int}{h1:HP}(ha:ev G cl a l h=.ok (.int v) h1):ev G cl (.neg a) l h=.ok (.int (-v)) h1:=by
 show(ev G cl a l h).bind _=_
 rw [ha]; rfl
theorem qc {h:HP}{i j:Nat}{xs:List AV}(hi:h[i]?=some (.list xs)) (hj:h[j]?=some (.list [])):cj .eq (.ref i) (.ref j) h=.ok (.bool xs.isEmpty) h:=by
 have u:eqv 6 h (.ref i) (.ref j)=(match h[i]?,h[j]? with
   | some (.list xs),some (.list ys)=>if xs.length=ys.length then b9 (List.zipWith (eqv 5 h) xs ys) else some false
   | some (.tup xs),some (.tup ys)=>if xs.length=ys.length then b9 (List.zipWith (eqv 5 h) xs ys) else Option.none
   | _,_=>Option.none):=rfl
 show(match eqv 6 h (.ref i) (.ref j) with | some r=>R.ok (AV.bool r) h | Option.none=>.err)=_
 rw [u,hi,hj]
 cases xs <;> rfl
set_option tactic.hygienic true in
theorem E0 {row:List Int}{q lv:Nat}(h0:G.fns 0=some ⟨2,4,jh⟩) (hG:G.fns 1=some ⟨3,6,i1⟩) (hq:h[q]?=some (.list (row.map .int))) (hw:2≤w) (hw9:w≤9) (hlv:lv≤12) (hr:row.length≤99999) :
  ∃ gb:HP,ae G W (n+2) 1 [.int w,.int lv,.ref q] h=.ok (.ref h.length) (h++.list ((ay (w^lv) Option.none row).map .int)::gb):=by
 have bd:=pk hw hw9 hlv
 have told:ae G W (n+1) 0 [.int w,.int lv] h=.ok (.int (w^lv)) h:=by
  have:=Cb (G:=G) (W:=W) (n:=n) (h:=h) (w:=w) (L:=(lv:Int)) h0 (Oz.o334 hw hw9) (Oz.o440 hlv)
  rwa [Int.toNat_natCast] at this
 generalize w^lv=P at *
 have dP:gi P=true:=je bd.1 bd.2
 have ql:=au hq
 have loop:=di (g:=some (q,.list (row.map .int))) (step:=fun v ζ l' h'=>exec G (ae G W (n+1)) W (.seq (.ite (.or (.cmp .eq (.loc 4) (.list .nil)) (.cmp .ne (.bin .fdiv (.item (.loc 4) (.neg (.int 1))) (.loc 3)) (.bin .fdiv (.loc 5) (.loc 3)))) (.seq (.ex (.bm .append (.loc 4) (.cons (.loc 5) .nil))) .skip) .skip) .skip) (l'.set 5 (some v)) h')
  (fun j l' h'=>(∃ t,l'=[some (.int w),some (.int lv),some (.ref q),some (.int P),some (.ref h.length),t])∧(∃ gb:HP,h'=h++.list ((ay P Option.none (row.take j)).map .int)::gb)∧j≤row.length) (row.map .int) 0
  [some (.int w),some (.int lv),some (.ref q),some (.int P),some (.ref h.length),Option.none] (h++[.list []]) ⟨⟨_,rfl⟩,⟨[],rfl⟩,Nat.zero_le _⟩ (fun j v l' h' hj ⟨⟨t,hl⟩,⟨gb,hh⟩,hjl⟩=>by
   simp only [Nat.zero_add] at hl hh hjl ⊢
   have hj' : j<row.length:=by have:=(Oz.g4.mp hj).1; simpa using this
   obtain⟨x,hx⟩:∃ x,row[j]?=some x:=⟨_,Oz.g10 hj'⟩
   have hv:v=.int x:=by rw [Oz.g12,hx] at hj; exact(Option.some.inj hj).symm
   subst hv
   have stand:h'[q]?=some (.list (row.map .int)):=by rw [hh]; exact(Oz.g23 ql).trans hq
   refine⟨b4 stand,?_⟩
   have tk:row.take (j+1)=row.take j++[x]:=by rw [List.take_succ,hx]; rfl
   have snoc:ay P Option.none (row.take (j+1))=ay P Option.none (row.take j)++(bif dg P (cz Option.none (row.take j)) x then [x] else []):=by rw [tk,jx]; rfl
   obtain⟨F,hF⟩:∃ F,F=ay P Option.none (row.take j):=⟨_,rfl⟩
   have lF:F.length≤99999:=by have:=xy (P:=P) (row.take j) Option.none; rw [hF]; simp at this; exact Oz.o441 hr this
   rw [← hF] at hh snoc
   have h4:h'[h.length]?=some (.list (F.map .int)):=by rw [hh]; exact ak
   have e0:ev G (ae G W (n+1)) (.cmp .eq (.loc 4) (.list .nil)) [some (.int w),some (.int lv),some (.ref q),some (.int P),some (.ref h.length),some (.int x)] h'=.ok (.bool (F.map AV.int).isEmpty) (h'++[.list []]) :=
    az (aa rfl) (b3 aj rfl) (qc (Ext.app.get (S:=[]) h4 Oz.g0) ak)
   have h4' : (h'++[AO.list []])[h.length]?=some (.list (F.map .int)):=Ext.app.get (S:=[]) h4 Oz.g0
   have app:exec G (ae G W (n+1)) W (.seq (.ex (.bm .append (.loc 4) (.cons (.loc 5) .nil))) .skip) [some (.int w),some (.int lv),some (.ref q),some (.int P),some (.ref h.length),some (.int x)] (h'++[.list []])=.next [some (.int w),some (.int lv),some (.ref q),some (.int P),some (.ref h.length),some (.int x)] ((h'++[AO.list []]).set h.length (AO.list (F.map .int++[.int x]))) :=
    af (ca (jd (aa rfl) h4' (aa rfl) h4' (by rw [Oz.g13]; exact decide_eq_true (Oz.o253 lF)))) ah
   have yes:dg P (cz Option.none (row.take j)) x=true→∃ gb' : HP,(h'++[AO.list []]).set h.length (AO.list (F.map .int++[.int x]))=h++.list ((ay P Option.none (row.take (j+1))).map .int)::gb' := fun hs=>by
    rw [snoc,hs,hh,Oz.g19,List.set_append_right _ _ (Oz.g3 _),Nat.sub_self,List.map_append]
    exact⟨_,rfl⟩
   cases j with
   | zero =>
    have F0:F=[]:=by rw [hF]; rfl
    rw [F0] at e0
    exact⟨_,_,by rw [hl]; exact af (be (Ds e0) app) ah,⟨_,rfl⟩,yes rfl,Oz.o442 hj'⟩
   | succ m =>
    refine Oz.z fun ζ η=>?_
    obtain⟨y0,r0,hr0⟩:Oz.E2 fun y0 r0=>row.take (m+1)=y0::r0:=by
     cases row with
     | nil=>simp at hj'
     | cons a r=>exact⟨a,r.take m,rfl⟩
    obtain⟨z,y,z1,z2⟩:=C6 (P:=P) r0 y0
    rw [← hr0] at z1 z2
    obtain⟨u,hu⟩:∃ u,cz Option.none (row.take (m+1))=some u:=by
     have e:row.take (m+1)=row.take m++[row[m]]:=by rw [List.take_succ,Oz.g10 (Oz.o409 hj')]; rfl
     exact⟨_,by rw [e,lf]⟩
    refine η ?_
    have z2:=z2 u hu
    have Fz:F=z++[y]:=hF.trans z1
    have F0:(F.map AV.int).isEmpty=false:=by rw [Fz]; simp
    rw [F0] at e0
    have il:dh (.ref h.length) (.int (-1)) (h'++[AO.list []])=.ok (.int y) (h'++[AO.list []]):=yo (vs:=z.map .int) (by rw [h4',Fz]; simp)
    have e1:ev G (ae G W (n+1)) (.cmp .ne (.bin .fdiv (.item (.loc 4) (.neg (.int 1))) (.loc 3)) (.bin .fdiv (.loc 5) (.loc 3))) [some (.int w),some (.int lv),some (.ref q),some (.int P),some (.ref h.length),some (.int x)] (h'++[AO.list []])=.ok (.bool (dg P (cz Option.none (row.take (m+1))) x)) (h'++[AO.list []]):=by
     rw [hu]
     show _=R.ok (AV.bool (!decide (u.fdiv P=x.fdiv P))) _
     rw [← z2]
     exact az (aq (bc (aa rfl) (Du ai) il) (aa rfl) (et dP)) (aq (aa rfl) (aa rfl) (et dP)) qx
    cases hs:dg P (cz Option.none (row.take (m+1))) x with
    | true =>
     rw [hs] at e1
     exact⟨_,_,by rw [hl]; exact af (be (eu e0 e1) app) ah,⟨_,rfl⟩,yes hs,by exact Oz.o443 hj'⟩
    | false =>
     rw [hs] at e1
     refine⟨_,_,by rw [hl]; exact af (ap (eu e0 e1) ah) ah,⟨_,rfl⟩,⟨gb++[.list []],?_⟩,by exact Oz.o443 hj'⟩
     rw [snoc,hs,hh,Oz.g19]
     show _=h++.list ((F++[]).map .int)::(gb++[.list []])
     rw [List.append_nil]; rfl) (fun l h' ⟨_,⟨gb,hh⟩,_⟩=>b4 (by rw [hh]; exact(Oz.g23 ql).trans hq))
 refine Oz.z fun ζ1 η1=>?_
 obtain⟨l',h',e,⟨t,hl⟩,⟨gb,hh⟩,_⟩:=loop
 refine η1 ?_
 simp only [Oz.g13,Nat.zero_add,List.take_length] at hh
 subst hl; subst hh
 refine⟨gb,bj hG rfl ?_⟩
 have items:bp .val [.ref q] (h++[.list []])=some (row.map .int,some (q,.list (row.map .int))):=by
  show(match (h++[AO.list []])[q]? with | some (.list vs)=>some (vs,some (q,AO.list vs)) | some (.tup vs)=>some (vs,some (q,.tup vs)) | _=>Option.none)=_
  rw [Oz.g23 ql,hq]
 exact af (am (ax (es2 rfl rfl) told)) (af (am (b3 aj rfl)) (af (ft (es1 rfl) items e) (av (bi (aa rfl)))))
theorem pj {lv:Nat}(h0:G.fns 0=some ⟨2,4,jh⟩) (h1:G.fns 1=some ⟨3,6,i1⟩) (hG:G.fns 12=some ⟨2,2,nf X⟩) (L:Lad h i d k w H kept) (ok:Ok w H kept W) (hlv:lv≤H) :
  ∃ gb:HP,ae G W (n+3) 12 [.ref i,.int lv] h=.ok (.ref h.length) (h++.list ((ay (w^lv) Option.none kept).map .int)::gb):=by
 obtain⟨gb,e⟩:=E0 (W:=W) (n:=n) (lv:=lv) h0 h1 L.list ok.w2 ok.w9 (by have:=ok.h12; exact Oz.o263 hlv this) (by have:=ok.top; exact Oz.o315 this)
 refine⟨gb,bj hG rfl ?_⟩
 have t:=jw (G:=G) (cl:=ae G W (n+2)) (l:=[some (.ref i),some (.int lv)]) (h:=h) (h1:=h) (h2:=h) (i:=0) (j:=(lv:Int)) (k:=(H:Int)) (a:=.int 0) (b:=.loc 1) (c:=.attr (.loc 0) 1) ai (aa rfl) (L.ea rfl rfl)
 rw [decide_eq_true (show(0:Int)≤lv by exact Oz.o205),decide_eq_true (show(lv:Int)≤H by exact Oz.o330 hlv)] at t
 exact af (ap (dw t) ah) (av (bi (ax (ag (L.ea rfl rfl) (ag (aa rfl) (ag (L.ea rfl rfl) aj))) e)))
end
end Sk
namespace Sk
section
variable {w:Int}{H T T2 T3 l:Nat}{P N:Int}
theorem mf (hP:0<P){a b:Int}(h:a≤b):a.fdiv P≤b.fdiv P:=by
 rw [Int.fdiv_eq_ediv_of_nonneg _ (Int.le_of_lt hP),Int.fdiv_eq_ediv_of_nonneg _ (Int.le_of_lt hP)]
 exact Int.ediv_le_ediv hP h
theorem gw {P:Int}:∀ (l:List Int) (pv:Option Int),(ay P pv l).Sublist l
 | [],_=>List.Sublist.refl _
 | x::r,pv=>by
  show(bif dg P pv x then x::ay P (some x) r else ay P (some x) r).Sublist _
  cases dg P pv x with
  | true=>exact(gw r (some x)).cons₂ x
  | false=>exact(gw r (some x)).cons x
theorem Dn:∀ (l:List Int) (p:Nat),p≤l.length→cz Option.none (l.take p)=bef l p
 | l,0,_=>by cases l <;> rfl
 | l,p+1,h=>by
  have e:l.take (p+1)=l.take p++[l[p]]:=by rw [List.take_add_one,Oz.g10 (Oz.o244 h)]; rfl
  rw [e,lf]
  show _=l[p]?
  rw [Oz.g10 (Oz.o244 h)]
theorem xr {ks L:List Int}{x:Int}(hp:ks.Perm L):(ks.filter fun y=>decide (y≠x)).Perm (L.filter fun y=>decide (y≠x)):=hp.filter _
theorem sm {L:List Int}{x:Int}(h:x∉L):L.filter (fun y=>decide (y≠x))=L:=List.filter_eq_self.mpr fun y hy=>decide_eq_true fun e=>h (e ▸ hy)
end
end Sk
namespace Sk
section
variable {w:Int}{H T T2 T3 p W:Nat}{N:Int}{kept:List Int}
theorem Ce (srt:kept.Pairwise (·<·)) (hp:Pl kept N p) (hn:N∉kept):(kept.take p++N::kept.drop p).Pairwise (·<·):=by
 have e:=List.take_append_drop p kept
 obtain⟨s1,s2,s3⟩:=List.pairwise_append.mp (by rw [e]; exact srt:(kept.take p++kept.drop p).Pairwise (·<·))
 have a1:∀ x∈kept.take p,x<N:=fun x hx=>by
  obtain⟨j,hj⟩:=List.getElem?_of_mem hx
  have hl:=(Oz.g4.mp hj).1
  have hl' : j<p:=by simp at hl; exact Oz.o254 hl
  rw [List.getElem?_take_of_lt hl'] at hj
  exact hp.lo j x hl' hj
 have a2:∀ x∈kept.drop p,N<x:=fun x hx=>by
  obtain⟨j,hj⟩:=List.getElem?_of_mem hx
  rw [List.getElem?_drop] at hj
  have h1:=hp.hi (p+j) x (Oz.o124) hj
  have h2:N≠x:=fun e=>hn (e ▸ Oz.g16 hj)
  exact Oz.o45 h1 h2
 exact List.pairwise_append.mpr ⟨s1,List.pairwise_cons.mpr ⟨a2,s2⟩,fun x hx y hy=>by
  rcases Oz.g6.mp hy with rfl | hy
  ·exact a1 x hx
  ·exact s3 x hx y hy⟩
theorem F8 (kept:List Int) (p:Nat):(kept.drop p).head?=kept[p]? := by rw [List.head?_drop]
theorem C7 (h:kept[p]?=some N):kept=kept.take p++N::kept.drop (p+1)∧kept.eraseIdx p=kept.take p++kept.drop (p+1):=by
 obtain⟨h1,h2⟩:=Oz.g4.mp h
 refine⟨?_,List.eraseIdx_eq_take_drop_succ kept p⟩
 rw [← h2,← List.drop_eq_getElem_cons h1,List.take_append_drop]
end
noncomputable def ny:CS:=(.seq (.ite (.cmp .eq (.bin .mod (.loc 0) (.int 4)) (.int 0)) (.seq (.ret (.bin .mod (.bin .fdiv (.loc 0) (.int 4)) (.loc 1))) .skip) .skip)
 (.seq (.ite (.cmp .eq (.bin .mod (.loc 0) (.int 4)) (.int 1)) (.seq (.ret (.bin .mod (.bin .fdiv (.loc 0) (.int 4)) (.bf .min (.cons (.loc 1) (.cons (.int 30) .nil))))) .skip) .skip)
 (.seq (.ite (.cmp .eq (.bin .mod (.loc 0) (.int 4)) (.int 2)) (.seq (.ret (.bin .sub (.bin .sub (.loc 1) (.int 1)) (.bin .mod (.bin .fdiv (.loc 0) (.int 4)) (.bf .min (.cons (.loc 1) (.cons (.int 30) .nil)))))) .skip) .skip)
 (.seq (.ret (.bin .mod (.bin .mul (.bin .fdiv (.loc 0) (.int 4)) (.int 48271)) (.loc 1))) .skip))))
section
variable {G:Gl}{W n:Nat}{h:HP}
theorem Oc {cl:CallO}{l:LOC}{f:BF}{a b:CE}{x y:AV}{h1 h2:HP}{r:R AV}(ha:ev G cl a l h=.ok x h1) (hb:ev G cl b l h1=.ok y h2) (hf:fw f [x,y] h2=r):ev G cl (.bf f (.cons a (.cons b .nil))) l h=r:=by
 show(evs G cl (.cons a (.cons b .nil)) l h).bind _=_
 rw [ag ha (ag hb aj)]; exact hf
theorem yf {f:Nat}{c m:Int}(hG:G.fns f=some ⟨2,2,ny⟩) (h1:1≤m) (dm:gi m=true):∃ v,0≤v∧v<m∧∀ n h,ae G W (n+1) f [.int c,.int m] h=.ok (.int v) h:=by
 have d4:gi 4=true:=by decide
 obtain⟨q,hq⟩:∃ q:Int,q=if 30<m then 30 else m:=⟨_,rfl⟩
 have q1:1≤q:=by rw [hq]; split <;> (first | exact Oz.o449 | exact Oz.o450 h1)
 have q2:q≤m:=by rw [hq]; split <;> (first | exact Oz.o451 ‹_› | exact Oz.o452)
 have q3:q≤30:=by rw [hq]; split <;> (first | exact Oz.o789 | exact Oz.o790 ‹_›)
 have dq:gi q=true:=je q1 (Oz.o791 q3)
 have mn:∀ (l:LOC) (cl:CallO) (h:HP),l[1]?=some (some (.int m))→ev G cl (.bf .min (.cons (.loc 1) (.cons (.int 30) .nil))) l h=.ok (.int q) h:=fun l cl h hl=>by rw [hq]; exact Oc (aa hl) ai rfl
 have t:∀ (cl:CallO) (h:HP) (j:Int),ev G cl (.cmp .eq (.bin .mod (.loc 0) (.int 4)) (.int j)) [some (.int c),some (.int m)] h=.ok (.bool (decide (c.fmod 4=j))) h:=fun cl h j=>az (aq (aa rfl) ai (fy d4)) ai oj
 have fq:=fm (c.fdiv 4) q (Oz.o268 q1)
 have fmm:=fm (c.fdiv 4) m (Oz.o268 h1)
 have fk:=fm (c.fdiv 4*48271) m (Oz.o268 h1)
 by_cases c0:c.fmod 4=0
 ·refine⟨(c.fdiv 4).fmod m,fmm.1,fmm.2,fun n h=>bj hG rfl ?_⟩
  have t0:=t (ae G W n) h 0
  rw [decide_eq_true c0] at t0
  exact av (be t0 (av (bi (aq (aq (aa rfl) ai (et d4)) (aa rfl) (fy dm)))))
 ·by_cases c1:c.fmod 4=1
  ·refine⟨(c.fdiv 4).fmod q,fq.1,Oz.o454 q2 fq.2,fun n h=>bj hG rfl ?_⟩
   have t0:=t (ae G W n) h 0
   have t1:=t (ae G W n) h 1
   rw [decide_eq_false c0] at t0
   rw [decide_eq_true c1] at t1
   exact af (ap t0 ah) (av (be t1 (av (bi (aq (aq (aa rfl) ai (et d4)) (mn _ _ _ rfl) (fy dq))))))
  ·by_cases c2:c.fmod 4=2
   ·refine⟨m - 1 - (c.fdiv 4).fmod q,Oz.o455 q2 fq.2,Oz.o456 fq.1,fun n h=>bj hG rfl ?_⟩
    have t0:=t (ae G W n) h 0
    have t1:=t (ae G W n) h 1
    have t2:=t (ae G W n) h 2
    rw [decide_eq_false c0] at t0
    rw [decide_eq_false c1] at t1
    rw [decide_eq_true c2] at t2
    exact af (ap t0 ah) (af (ap t1 ah) (av (be t2 (av (bi (aq (aq (aa rfl) ai fj) (aq (aq (aa rfl) ai (et d4)) (mn _ _ _ rfl) (fy dq)) fj))))))
   ·refine⟨(c.fdiv 4*48271).fmod m,fk.1,fk.2,fun n h=>bj hG rfl ?_⟩
    have t0:=t (ae G W n) h 0
    have t1:=t (ae G W n) h 1
    have t2:=t (ae G W n) h 2
    rw [decide_eq_false c0] at t0
    rw [decide_eq_false c1] at t1
    rw [decide_eq_false c2] at t2
    exact af (ap t0 ah) (af (ap t1 ah) (af (ap t2 ah) (av (bi (aq (aq (aq (aa rfl) ai (et d4)) ai (lj (decide_eq_true (.inr (by decide))))) (aa rfl) (fy dm))))))
theorem Ae {f:Nat}{c m:Int}(hG:G.fns f=some ⟨2,2,ny⟩) (h1:1≤m) (h2:m≤282429536481):∃ v,0≤v∧v<m∧∀ n h,ae G W (n+1) f [.int c,.int m] h=.ok (.int v) h:=yf hG h1 (je h1 h2)
end
end Sk
namespace Sk
section
variable {G:Gl}{cl:CallO}{W:Nat}{l:LOC}{h h1 h2:HP}{a b c:CE}{x y:AV}
theorem Nj {q:Nat}{ks:List Int}{v:Int}(ha:ev G cl a l h=.ok (.ref q) h) (hq:h[q]?=some (.dict ks)) (hb:ev G cl b l h=.ok (.int v) h) (hv:v∈ks):ev G cl (.bm .dpop a (.cons b .nil)) l h=.ok (.bool true) (h.set q (.dict (ks.filter fun x=>decide (x≠v)))):=by
 show(ev G cl a l h).bind _=_
 rw [ha]
 have k:dz .dpop (.ref q) h=true:=by unfold dz; dsimp only; rw [hq]
 show(if dz .dpop (.ref q) h then (evs G cl (.cons b .nil) l h).bind fun vs h₂=>tg .dpop (.ref q) vs h₂ else .err)=_
 rw [if_pos k,ag hb aj]
 show((h[q]?).bind uh).elim .err (fun ks=>if v∈ks then R.ok (AV.bool true) (h.set q (.dict (ks.filter fun x=>decide (x≠v)))) else .err)=_
 rw [hq]
 exact if_pos hv
set_option tactic.hygienic true in
theorem Gu {q:Nat}{ks:List Int}{v:Int}(ha:ev G cl a l h=.ok (.ref q) h) (hb:ev G cl b l h=.ok (.int v) h) (hq:h[q]?=some (.dict ks)) (hv:v∉ks) (hz:cb ks.length=true):exec G cl W (.setItem a b (.bool true)) l h=.next l (h.set q (.dict (ks++[v]))):=by
 show(ev G cl a l h).thn l _=_
 rw [ha]
 show(ev G cl b l h).thn l _=_
 rw [hb]
 have:iy (.ref q) (.int v) (.bool true) h=.ok () (h.set q (.dict (ks++[v]))):=by
  show(h[q]?).elim (R.err:R Unit) _=_
  rw [hq]
  show(if AV.bool true=.bool true∧cb ks.length then R.ok () (h.set q (.dict (ma v ks))) else .err)=_
  rw [if_pos ⟨rfl,hz⟩]
  unfold ma
  rw [if_neg hv]
 show(iy (.ref q) (.int v) (.bool true) h).thn l _=_
 rw [this]; rfl
theorem Ko {t:Bool}{n:Int}{i:Nat}{L:List Int}(hi:h[i]?=some (.dict L)):n6 t (.int n) (.ref i) h=.ok (.bool (t ^^ decide (n∈L))) h:=Nb hi rfl
theorem C0 {i:Nat}{ks:List Int}(hi:h[i]?=some (.dict ks)):fw .len [.ref i] h=.ok (.int ks.length) h:=Dl hi rfl
theorem Bp {i:Nat}{ao:AO}{vs:List AV}(hi:h[i]?=some ao) (hv:Dp ao=some vs):fw .list [.ref i] h=.ok (.ref h.length) (h++[.list vs]):=by
 show((h[i]?).bind Dp).elim (R.err:R AV) _=_
 rw [hi]
 show(Dp ao).elim (R.err:R AV) _=_
 rw [hv]; rfl
theorem Iq {i:Nat}{ks:List Int}(hi:h[i]?=some (.dict ks)):fw .list [.ref i] h=.ok (.ref h.length) (h++[.list (ks.map .int)]):=Bp hi rfl
theorem jq {i:Nat}{vs:List AV}(hi:h[i]?=some (.list vs)):fw .list [.ref i] h=.ok (.ref h.length) (h++[.list vs]):=Bp hi rfl
theorem Jx {α:Type}{h r:List α}{u u' : α}:(h++u::r).set h.length u'=h++u'::r:=by
 rw [List.set_append_right _ _ (Oz.g3 _),Nat.sub_self]; rfl
theorem Ob {m:Nat}{es:CEs}{vs:List AV}(hi:G.init 0=some m) (he:evs G cl es l h=.ok vs h) (hc:cl m (.ref (h.length+1)::vs) (h++[.fields [],.inst 0 h.length])=.ok .none h2):ev G cl (.new 0 es) l h=.ok (.ref (h.length+1)) h2:=by
 show(match G.init 0 with
   | some f=>(evs G cl es l h).bind fun vs h₁=>(cl f (.ref (h₁.length+1)::vs) (h₁++[AO.fields [],AO.inst 0 h₁.length])).bind fun r h₂=>match r with
    | .none=>R.ok (AV.ref (h₁.length+1)) h₂
    | _=>.err
   | Option.none=>.err)=_
 rw [hi]
 dsimp only
 rw [he]
 show(cl m (.ref (h.length+1)::vs) (h++[.fields [],.inst 0 h.length])).bind _=_
 rw [hc]; rfl
end
section
variable {G:Gl}{W n:Nat}{h:HP}{i d k:Nat}{w:Int}{H:Nat}{kept:List Int}{X Y Z:CS}
set_option tactic.hygienic true in
theorem Lz (h0:G.fns 0=some ⟨2,4,jh⟩) (hG:G.fns 3=some ⟨3,3,Ay X⟩) (w2:2≤w) (w9:w≤9) (h1:1≤H) (h12:H≤12):∃ h',ae G W (n+2) 3 [.ref (h.length+1),.int w,.int H] (h++[.fields [],.inst 0 h.length])=.ok .none h'∧Lad h' (h.length+1) h.length (h.length+2) w H []∧Ext [] h h'∧h'.length=h.length+3:=by
 have e1:=jw (G:=G) (cl:=ae G W (n+1)) (l:=[some (.ref (h.length+1)),some (.int w),some (.int H)]) (h:=h++[.fields [],.inst 0 h.length]) (i:=2) (j:=w) (k:=9) (a:=.int 2) (b:=.loc 1) (c:=.int 9) ai (aa rfl) ai
 have e2:=jw (G:=G) (cl:=ae G W (n+1)) (l:=[some (.ref (h.length+1)),some (.int w),some (.int H)]) (h:=h++[.fields [],.inst 0 h.length]) (i:=1) (j:=(H:Int)) (k:=12) (a:=.int 1) (b:=.loc 2) (c:=.int 12) ai (aa rfl) ai
 rw [decide_eq_true w2,decide_eq_true w9] at e1
 rw [decide_eq_true (show(1:Int)≤H by exact Oz.o479 h1),decide_eq_true (show(H:Int)≤12 by exact Oz.o180 h12)] at e2
 have st:∀ (fs:List (Nat×AV)) (r r' : HP) (m:Nat) (v:AV) (e:CE),fs.length<100→ev G (ae G W (n+1)) e [some (.ref (h.length+1)),some (.int w),some (.int H)] (h++.fields fs::.inst 0 h.length::r)=.ok v (h++.fields fs::.inst 0 h.length::r') →
   exec G (ae G W (n+1)) W (.setAttr (.loc 0) m e) [some (.ref (h.length+1)),some (.int w),some (.int H)] (h++.fields fs::.inst 0 h.length::r)=.next [some (.ref (h.length+1)),some (.int w),some (.int H)] (h++.fields (o0 m v fs)::.inst 0 h.length::r'):=fun fs r r' m v e hz he=>by
  have:=re (W:=W) (a:=.loc 0) (n:=m) he (aa rfl) (jb (j:=1)) ak hz
  rwa [Jx] at this
 have pw:ae G W (n+1) 0 [.int w,.int H] (h++[.fields [(0,.int w),(1,.int H)],.inst 0 h.length])=.ok (.int (w^H)) (h++[.fields [(0,.int w),(1,.int H)],.inst 0 h.length]):=by
  have:=Cb (G:=G) (W:=W) (n:=n) (h:=h++[.fields [(0,.int w),(1,.int H)],.inst 0 h.length]) (w:=w) (L:=(H:Int)) h0 (Oz.o334 w2 w9) (Oz.o440 h12)
  rwa [Int.toNat_natCast] at this
 have ml:∀ fs,ev G (ae G W (n+1)) (.list .nil) [some (.ref (h.length+1)),some (.int w),some (.int H)] (h++[.fields fs,.inst 0 h.length])=.ok (.ref (h.length+2)) (h++[.fields fs,.inst 0 h.length,.list []]):=fun fs=>by
  have:=b3 (G:=G) (cl:=ae G W (n+1)) (l:=[some (.ref (h.length+1)),some (.int w),some (.int H)]) (h:=h++[.fields fs,.inst 0 h.length]) (es:=.nil) aj rfl
  rw [show(h++[AO.fields fs,.inst 0 h.length]).length=h.length+2 by simp,Oz.g19] at this
  exact this
 refine⟨h++[.fields [(0,.int w),(1,.int H),(2,.int (w^H)),(3,.int 0),(4,.ref (h.length+2))],.inst 0 h.length,.list []],s9 (l1:=[some (.ref (h.length+1)),some (.int w),some (.int H)]) hG rfl ?_,⟨jb,ak,jb⟩,Ext.app,by simp⟩
 exact af (ap (eu (dw e1) (dw e2)) ah) (af (st [] [] [] 0 _ _ (by decide) (aa rfl)) (af (st [(0,.int w)] [] [] 1 _ _ (by simp) (aa rfl)) (af (st [(0,.int w),(1,.int H)] [] [] 2 _ _ (by simp) (ax (es2 rfl rfl) pw))
  (af (st [(0,.int w),(1,.int H),(2,.int (w^H))] [] [] 3 _ _ (by simp) ai) (af (st [(0,.int w),(1,.int H),(2,.int (w^H)),(3,.int 0)] [] [.list []] 4 _ _ (by simp) (ml _)) ah)))))
end
end Sk
namespace Sk
section
variable {G:Gl}{cl:CallO}{W:Nat}{l:LOC}{h h1 h2:HP}{a b c:CE}{x y:AV}
theorem Kt {i:Nat}{vs:List AV}(ha:ev G cl a l h=.ok (.ref i) h1) (hi:h1[i]?=some (.tup vs)):ev G cl (.isinst a .tup) l h=.ok (.bool true) h1:=by
 show(ev G cl a l h).bind _=_
 rw [ha]
 show ja G.sub .tup (.ref i) h1=_
 show(h1[i]?).elim (R.err:R AV) _=_
 rw [hi]; rfl
theorem bw {q:Nat}{vs:List AV}(hq:h[q]?=some (.list vs)):bp .val [.ref q] h=some (vs,some (q,.list vs)):=by
 show(match h[q]? with | some (.list vs)=>some (vs,some (q,AO.list vs)) | some (.tup vs)=>some (vs,some (q,.tup vs)) | _=>Option.none)=_
 rw [hq]
end
end Sk
namespace Sk
theorem ur {ks L:List Int}(p:ks.Perm L) (s:L.Pairwise (·<·)):jf ks=L:=(ut p.symm (s.imp fun h=>Int.le_of_lt h)).symm
section
variable {G:Gl}{W n:Nat}{h:HP}
theorem Bo {i:Nat}{ao:AO}{ns:List Int}(hi:h[i]?=some ao) (hn:zh ao=some ns):fw .sorted [.ref i] h=.ok (.ref h.length) (h++[.list (ns.map .int)]):=by
 show((h[i]?).bind zh).elim (R.err:R AV) _=_
 rw [hi]
 show(zh ao).elim (R.err:R AV) _=_
 rw [hn]; rfl
theorem Io {i:Nat}{ks:List Int}(hi:h[i]?=some (.dict ks)) (hz:ks.length<64):fw .sorted [.ref i] h=.ok (.ref h.length) (h++[.list ((jf ks).map .int)]):=Bo hi (if_pos hz)
theorem Ip {i:Nat}{ks:List Int}(hi:h[i]?=some (.dict ks)) (hz:ks.length<64):fw .sorted [.ref i] h=.ok (.ref h.length) (h++[.list ((jf ks).map .int)]):=Io hi hz
theorem Kz {i j:Nat}{L:List Int}(hi:h[i]?=some (.list (L.map .int))) (hj:h[j]?=some (.list (L.map .int))):cj .ne (.ref i) (.ref j) h=.ok (.bool false) h:=by
 have e:=Bm hi hj
 show(match eqv 6 h (.ref i) (.ref j) with | some r=>R.ok (AV.bool (!r)) h | Option.none=>.err)=_
 have e:(match eqv 6 h (.ref i) (.ref j) with | some r=>R.ok (AV.bool r) h | Option.none=>.err)=.ok (.bool true) h:=e
 cases q:eqv 6 h (.ref i) (.ref j) with
 | none=>rw [q] at e; cases e
 | some r=>rw [q] at e; cases e; rfl
end
end Sk
namespace Sk
end Sk
namespace Sk
theorem qa (ns:List Int):∀ idx:List Nat,idx.filterMap ((ns.map AV.int)[·]?)=(idx.filterMap (ns[·]?)).map .int
 | []=>rfl
 | k::r=>by
  rw [List.filterMap_cons,List.filterMap_cons,Oz.g12,qa ns r]
  cases ns[k]? <;> rfl
end Sk
namespace Sk
noncomputable def ng (X:CS):CS:=(.seq (.asg 3 (.meth (.loc 0) 9 (.cons (.loc 1) .nil))) (.seq (.ite (.isin true (.loc 2) (.loc 3)) (.seq X .skip) .skip) (.seq (.asg 4 (.bm .index (.loc 3) (.cons (.loc 2) .nil))) (.seq (.asg 5 (.meth (.loc 0) 2 (.cons (.loc 2) .nil)))
 (.seq (.ite (.cmp .eq (.bin .add (.loc 4) (.int 1)) (.bf .len (.cons (.loc 3) .nil))) (.seq (.ret (.tup (.cons .none (.cons (.bin .sub (.bf .len (.cons (.attr (.loc 0) 4) .nil)) (.loc 5)) .nil)))) .skip) .skip)
 (.seq (.ret (.tup (.cons (.item (.loc 3) (.bin .add (.loc 4) (.int 1))) (.cons (.bin .sub (.meth (.loc 0) 2 (.cons (.item (.loc 3) (.bin .add (.loc 4) (.int 1))) .nil)) (.loc 5)) .nil)))) .skip))))))
section
variable {G:Gl}{cl:CallO}{W n:Nat}{l:LOC}{h h1 h2:HP}{i d k:Nat}{w:Int}{H:Nat}{kept:List Int}{X Y:CS}{a b:CE}
theorem Ku {q:Nat}{L:List Int}{v:Int}(ha:ev G cl a l h=.ok (.ref q) h) (hq:h[q]?=some (.list (L.map .int))) (hb:ev G cl b l h=.ok (.int v) h) (hv:v∈L):ev G cl (.bm .index a (.cons b .nil)) l h=.ok (.int (L.idxOf v:Nat)) h:=by
 show(ev G cl a l h).bind _=_
 rw [ha]
 have k:dz .index (.ref q) h=true:=by unfold dz; dsimp only; rw [hq]
 show(if dz .index (.ref q) h then (evs G cl (.cons b .nil) l h).bind fun vs h₂=>tg .index (.ref q) vs h₂ else .err)=_
 rw [if_pos k,ag hb aj]
 show((h[q]?).bind iv).elim .err (fun vs=>match f7 vs with
   | some ns=>if v∈ns then R.ok (AV.int (ns.idxOf v:Nat)) h else .err
   | Option.none=>.err)=_
 rw [hq]
 show(match f7 (L.map .int) with
   | some ns=>if v∈ns then R.ok (AV.int (ns.idxOf v:Nat)) h else .err
   | Option.none=>.err)=_
 rw [mz]
 exact if_pos hv
theorem wu {lv:Nat}{N:Int}(h0:G.fns 0=some ⟨2,4,jh⟩) (h1:G.fns 1=some ⟨3,6,i1⟩) (h5:G.fns 5=some ⟨2,5,n5⟩) (h12:G.fns 12=some ⟨2,2,nf Y⟩) (m2:G.meth 0 2=some 5) (m9:G.meth 0 9=some 12) (hG:G.fns 13=some ⟨3,6,ng X⟩)
  (L:Lad h i d k w H kept) (ok:Ok w H kept W) (hlv:lv≤H) (hN:N∈ay (w^lv) Option.none kept):Oz.E4 fun h' q p g=>ae G W (n+4) 13 [.ref i,.int lv,.int N] h=.ok (.ref q) h'∧h.length≤q∧h'[q]?=some (.tup [oav (ay (w^lv) Option.none kept)[(ay (w^lv) Option.none kept).idxOf N+1]?,.int g])∧Ext [] h h' ∧
   Pl kept N p∧(∀ y,(ay (w^lv) Option.none kept)[(ay (w^lv) Option.none kept).idxOf N+1]?=some y→∃ p',Pl kept y p'∧g=(p' : Int) - p)∧((ay (w^lv) Option.none kept)[(ay (w^lv) Option.none kept).idxOf N+1]?=Option.none→g=(kept.length:Int) - p):=by
 obtain⟨gb,lvl⟩:=pj (W:=W) (n:=n) (lv:=lv) h0 h1 h12 L ok hlv
 obtain⟨th,hth⟩:∃ th,th=ay (w^lv) Option.none kept:=⟨_,rfl⟩
 rw [← hth] at lvl hN ⊢
 obtain⟨h1',hh1⟩:∃ h1' : HP,h1'=h++.list (th.map .int)::gb:=⟨_,rfl⟩
 rw [← hh1] at lvl
 have x1:Ext [] h h1' := hh1 ▸ Ext.app
 have L1:Lad h1' i d k w H kept:=L.ext x1 Oz.g0 Oz.g0 Oz.g0
 have f1:h1'[h.length]?=some (.list (th.map .int)):=by rw [hh1]; exact ak
 obtain⟨p,hp,ls⟩:=jn (W:=W) (n:=n+2) (v:=N) h5 L1 ok.srt (by have:=ok.few; exact Oz.o240 this)
 have t1:=ju (t:=true) (n:=N) f1
 rw [decide_eq_true hN] at t1
 have ln:fw .len [.ref h.length] h1'=.ok (.int (th.length:Int)) h1' := by
  have:=kf f1
  rwa [Oz.g13] at this
 have lk:fw .len [.ref k] h1'=.ok (.int (kept.length:Int)) h1' := by
  have:=kf L1.list
  rwa [Oz.g13] at this
 have pre:∀ rr,exec G (ae G W (n+3)) W (.seq (.ite (.cmp .eq (.bin .add (.loc 4) (.int 1)) (.bf .len (.cons (.loc 3) .nil))) (.seq (.ret (.tup (.cons .none (.cons (.bin .sub (.bf .len (.cons (.attr (.loc 0) 4) .nil)) (.loc 5)) .nil)))) .skip) .skip)
   (.seq (.ret (.tup (.cons (.item (.loc 3) (.bin .add (.loc 4) (.int 1))) (.cons (.bin .sub (.meth (.loc 0) 2 (.cons (.item (.loc 3) (.bin .add (.loc 4) (.int 1))) .nil)) (.loc 5)) .nil)))) .skip)) [some (.ref i),some (.int lv),some (.int N),some (.ref h.length),some (.int (th.idxOf N:Nat)),some (.int (p:Nat))] h1'=rr →
   exec G (ae G W (n+3)) W (ng X) [some (.ref i),some (.int lv),some (.int N),Option.none,Option.none,Option.none] h=rr:=fun rr hq =>
  af (am (L.em rfl m9 (es1 rfl) lvl)) (af (ap (ii (aa rfl) (aa rfl) t1) ah) (af (am (Ku (aa rfl) f1 (aa rfl) hN)) (af (am (L1.em rfl m2 (es1 rfl) ls)) hq)))
 have t2:ev G (ae G W (n+3)) (.cmp .eq (.bin .add (.loc 4) (.int 1)) (.bf .len (.cons (.loc 3) .nil))) [some (.ref i),some (.int lv),some (.int N),some (.ref h.length),some (.int (th.idxOf N:Nat)),some (.int (p:Nat))] h1'=.ok (.bool (decide (((th.idxOf N:Nat):Int)+1=(th.length:Int)))) h1' := az (aq (aa rfl) ai b8) (b7 (aa rfl) ln) oj
 have hi:=List.idxOf_lt_length_iff.mpr hN
 by_cases q:th.idxOf N+1=th.length
 ·rw [decide_eq_true (Oz.o471 q)] at t2
  have e:th[th.idxOf N+1]?=Option.none:=List.getElem?_eq_none (Oz.o472 q)
  refine⟨h1'++[.tup [.none,.int ((kept.length:Int) - (p:Nat))]],h1'.length,p,_,bj hG rfl (pre _ (av (be t2 (av (bi (j7 (ag cw (ag (aq (b7 (L1.ea rfl rfl) lk) (aa rfl) fj) aj)) rfl)))))),x1.len,by rw [e]; exact ak,x1.trans Ext.app,hp,fun y hy=>(by rw [e] at hy; cases hy),fun ζ=>rfl⟩
 ·rw [decide_eq_false (Oz.o473 q)] at t2
  obtain⟨y,hy⟩:∃ y,th[th.idxOf N+1]?=some y:=⟨_,Oz.g10 (Oz.o474 hi q)⟩
  obtain⟨p',hp',ls'⟩:=jn (W:=W) (n:=n+2) (v:=y) h5 L1 ok.srt (by have:=ok.few; exact Oz.o240 this)
  have it:dh (.ref h.length) (.int (((th.idxOf N:Nat):Int)+1)) h1'=.ok (.int y) h1' := bh (k:=th.idxOf N+1) f1 (by rw [Oz.g12,hy]; rfl)
  have ei:ev G (ae G W (n+3)) (.item (.loc 3) (.bin .add (.loc 4) (.int 1))) [some (.ref i),some (.int lv),some (.int N),some (.ref h.length),some (.int (th.idxOf N:Nat)),some (.int (p:Nat))] h1'=.ok (.int y) h1' := bc (aa rfl) (aq (aa rfl) ai b8) it
  refine⟨h1'++[.tup [.int y,.int ((p' : Int) - (p:Nat))]],h1'.length,p,_,bj hG rfl (pre _ (af (ap t2 ah) (av (bi (j7 (ag ei (ag (aq (L1.em rfl m2 (ag ei aj) ls') (aa rfl) fj) aj)) rfl))))),x1.len,by rw [hy]; exact ak,x1.trans Ext.app,hp,fun z hz=>?_,fun e=>(by rw [hy] at e; cases e)⟩
  rw [hy] at hz; cases hz
  exact⟨p',hp',rfl⟩
end
end Sk
namespace Sk
noncomputable def nx (P:Int) (kept:List Int) (x:Int):Option Int:=kept.find? fun z=>decide (x.fdiv P<z.fdiv P)
theorem xx {P:Int}(hP:0<P):∀ (l:List Int) (p:Int),(∀ y∈l,p≤y)→l.Pairwise (·<·)→(ay P (some p) l).head?=l.find? fun z=>decide (p.fdiv P<z.fdiv P)
 | [],_,_,_=>rfl
 | z::r,p,hp,s=>by
  have hpz:p.fdiv P≤z.fdiv P:=mf hP (hp z (.head _))
  show(bif !decide (p.fdiv P=z.fdiv P) then z::ay P (some z) r else ay P (some z) r).head?=_
  rw [List.find?_cons]
  by_cases q:p.fdiv P=z.fdiv P
  ·rw [decide_eq_true q,decide_eq_false (by exact Oz.o190 q:¬ p.fdiv P<z.fdiv P)]
   have:=xx hP r z (fun y hy=>Int.le_of_lt ((List.pairwise_cons.mp s).1 y hy)) (List.pairwise_cons.mp s).2
   rw [← q] at this
   exact this
  ·rw [decide_eq_false q,decide_eq_true (by exact Oz.o191 hpz q:p.fdiv P<z.fdiv P)]; rfl
theorem C5 {P:Int}{kept:List Int}{x:Int}(s:kept.Pairwise (·<·)) (hx:x∈ay P Option.none kept):Oz.E2 fun B r=>kept=B++x::r∧ay P Option.none kept=ay P Option.none B++x::ay P (some x) r∧(∀ y∈B,y<x)∧(∀ y∈r,x<y)∧r.Pairwise (·<·)∧dg P (cz Option.none B) x=true:=by
 refine Oz.z fun ζ η=>?_
 obtain⟨B,r,e⟩:=List.append_of_mem ((gw _ _).subset hx)
 subst e
 obtain⟨s1,s2,s3⟩:=List.pairwise_append.mp s
 obtain⟨s4,s5⟩:=List.pairwise_cons.mp s2
 refine η ?_
 have lb:∀ y∈B,y<x:=fun y hy=>s3 y hy x (.head _)
 rw [jx] at hx ⊢
 have e:ay P (cz Option.none B) (x::r)=bif dg P (cz Option.none B) x then x::ay P (some x) r else ay P (some x) r:=rfl
 rw [e] at hx ⊢
 cases q:dg P (cz Option.none B) x with
 | true=>exact⟨B,r,rfl,rfl,lb,s4,s5,q⟩
 | false =>
  rw [q] at hx
  rcases Oz.g1.mp hx with h | h
  ·exact absurd (lb x ((gw _ _).subset h)) (Int.lt_irrefl _)
  ·exact absurd (s4 x ((gw _ _).subset h)) (Int.lt_irrefl _)
theorem rf {P:Int}(hP:0<P){kept:List Int}{x:Int}(s:kept.Pairwise (·<·)) (hx:x∈ay P Option.none kept):(ay P Option.none kept)[(ay P Option.none kept).idxOf x+1]?=nx P kept x:=by
 refine Oz.z fun ζ η=>?_
 obtain⟨B,r,e1,e2,lb,lr,sr,_⟩:=C5 s hx
 refine η ?_
 have hnB:x∉ay P Option.none B:=fun h=>absurd (lb x ((gw _ _).subset h)) (Int.lt_irrefl _)
 rw [e2,List.idxOf_append,if_neg hnB,List.idxOf_cons_self,Nat.zero_add,Oz.g29 (by exact Oz.o192)]
 rw [show(ay P Option.none B).length+1 - (ay P Option.none B).length=1 by exact Oz.o193]
 show(ay P (some x) r)[0]?=_
 rw [← List.head?_eq_getElem?,xx hP r x (fun y hy=>Int.le_of_lt (lr y hy)) sr]
 unfold nx
 rw [e1,List.find?_append]
 have:(B.find? fun z=>decide (x.fdiv P<z.fdiv P))=Option.none:=List.find?_eq_none.mpr fun y hy=>by
  have:=mf hP (Int.le_of_lt (lb y hy))
  simp; exact Oz.o194 this
 rw [this,List.find?_cons,decide_eq_false (Int.lt_irrefl _)]
 rfl
noncomputable def Fst (P:Int) (kept:List Int) (x:Int):Prop:=x∈kept∧∀ z∈kept,z<x→z.fdiv P<x.fdiv P
theorem u7 {P:Int}(hP:0<P){kept:List Int}{x:Int}(s:kept.Pairwise (·<·)) (hx:Fst P kept x):x∈ay P Option.none kept:=by
 refine Oz.z fun ζ η=>?_
 obtain⟨B,r,e⟩:=List.append_of_mem hx.1
 subst e
 obtain⟨s1,s2,s3⟩:=List.pairwise_append.mp s
 refine η ?_
 rw [jx]
 refine Oz.g24 _ ?_
 show x∈bif dg P (cz Option.none B) x then x::ay P (some x) r else ay P (some x) r
 have:dg P (cz Option.none B) x=true:=by
  cases h:cz Option.none B with
  | none=>rfl
  | some y =>
   have hy:y∈B:=by
    revert h
    have key:∀ (B:List Int) (pv:Option Int),cz pv B=some y→y∈B∨pv=some y:=by
     intro B
     induction B with
     | nil=>exact fun pv h=>.inr h
     | cons b r ih =>
      intro pv h
      rcases ih (some b) h with q | q
      ·exact .inl (.tail _ q)
      ·cases q; exact .inl (.head _)
    intro h
    rcases key B _ h with q | q
    ·exact q
    ·cases q
   have:=hx.2 y (Oz.g18 _ hy) (s3 y hy x (.head _))
   show(!decide (y.fdiv P=x.fdiv P))=true
   rw [decide_eq_false (Oz.o195 this)]; rfl
 rw [this]
 exact .head _
theorem Ch {P:Int}(hP:0<P){kept:List Int}{x y:Int}(s:kept.Pairwise (·<·)) (h:nx P kept x=some y):Fst P kept y∧x.fdiv P<y.fdiv P∧x<y∧∀ z∈kept,z<y→z.fdiv P≤x.fdiv P:=by
 refine Oz.z fun ζ η=>?_
 obtain⟨h1,A,B,e,h2⟩:=List.find?_eq_some_iff_append.mp h
 have hlt:x.fdiv P<y.fdiv P:=of_decide_eq_true h1
 subst e
 obtain⟨s1,s2,s3⟩:=List.pairwise_append.mp s
 refine η ?_
 have key:∀ z∈A++y::B,z<y→z.fdiv P≤x.fdiv P:=fun z hz hzy=>by
  rcases Oz.g1.mp hz with h | h
  ·have:=h2 z h
   simp at this; exact this
  ·rcases Oz.g6.mp h with rfl | h
   ·exact Oz.o197 hzy
   ·have:=(List.pairwise_cons.mp s2).1 z h; exact Oz.o198 hzy this
 refine⟨⟨by simp,fun z hz hzy=>?_⟩,hlt,?_,key⟩
 ·have:=key z hz hzy; exact Oz.o139 hlt this
 ·rcases Int.lt_or_le x y with q | q
  ·exact q
  ·have:=mf hP q; exact Oz.o199 hlt this
theorem J8 {P:Int}{kept:List Int}{x:Int}(h:nx P kept x=Option.none):∀ z∈kept,z.fdiv P≤x.fdiv P:=fun z hz=>by
 have:=List.find?_eq_none.mp h z hz
 simp at this; exact this
noncomputable def stp (w n:Int) (kept:List Int) (p:Nat×Int):Option (Nat×Int):=match (nx (w^p.1) kept p.2).filter (fun y=>decide (y≤n)) with
 | some y=>some (p.1,y)
 | Option.none=>match p.1 with
  | 0=>Option.none
  | l+1=>some (l,p.2)
structure Wy (w n:Int) (H:Nat) (kept:List Int) (p:Nat×Int):Prop where
 le:p.1≤H
 here:Fst (w^p.1) kept p.2
 low:p.2≤n
 top:∀ z∈kept,z≤n→z.fdiv (w^(p.1+1))≤p.2.fdiv (w^(p.1+1))
noncomputable def dig (w:Int) (p:Nat×Int):Int:=(p.2.fdiv (w^p.1)).fmod w
noncomputable def rnk (w:Int) (p:Nat×Int):Int:=p.1*w+(w - 1 - dig w p)
theorem wh {w:Int}(hw:2≤w) (p:Nat×Int):0≤dig w p∧dig w p<w:=⟨Int.fmod_nonneg_of_pos _ (Oz.o168 hw),Int.fmod_lt_of_pos _ (Oz.o168 hw)⟩
theorem u8 {w:Int}(hw:2≤w) (x:Int) (l:Nat):(x.fdiv (w^l)).fdiv w=x.fdiv (w^(l+1)):=by
 have p1:0≤w^l:=Int.le_of_lt (Int.pow_pos (Oz.o168 hw))
 rw [Int.pow_succ,Int.fdiv_eq_ediv_of_nonneg _ p1,Int.fdiv_eq_ediv_of_nonneg _ (Oz.o181 hw:0≤w),Int.fdiv_eq_ediv_of_nonneg _ (Int.mul_nonneg p1 (Oz.o181 hw)),Int.ediv_ediv_of_nonneg p1]
theorem Gk {w:Int}(hw:2≤w) (p:Nat×Int):p.2.fdiv (w^p.1)=w*p.2.fdiv (w^(p.1+1))+dig w p:=by
 have:=Int.mul_fdiv_add_fmod (p.2.fdiv (w^p.1)) w
 rw [u8 hw] at this
 exact this.symm
theorem ki {w n:Int}{H:Nat}{kept:List Int}{p q:Nat×Int}(hw:2≤w) (s:kept.Pairwise (·<·)) (y:Wy w n H kept p) (h:stp w n kept p=some q) :
  Wy w n H kept q∧((q.1=p.1∧nx (w^p.1) kept p.2=some q.2∧q.2≤n∧dig w p<dig w q)∨(p.1=q.1+1∧q.2=p.2∧∀ z,nx (w^p.1) kept p.2=some z→¬ z≤n)):=by
 have P0:∀ l:Nat,0<w^l:=fun l=>Int.pow_pos (Oz.o168 hw)
 unfold stp at h
 cases e:(nx (w^p.1) kept p.2).filter (fun y=>decide (y≤n)) with
 | some z =>
  rw [e] at h
  cases h
  refine Oz.z fun ζ η=>?_
  obtain⟨e1,e2⟩:=Option.filter_eq_some_iff.mp e
  have e2:z≤n:=of_decide_eq_true e2
  obtain⟨f1,f2,f3,f4⟩:=Ch (P0 p.1) s e1
  refine η ?_
  have t1:=y.top z f1.1 e2
  have t2:=mf (P0 (p.1+1)) (Int.le_of_lt f3)
  have te:z.fdiv (w^(p.1+1))=p.2.fdiv (w^(p.1+1)):=Oz.o200 t1 t2
  refine⟨⟨y.le,f1,e2,fun u hu hun=>?_⟩,.inl ⟨rfl,e1,e2,?_⟩⟩
  ·have:=y.top u hu hun
   show u.fdiv (w^(p.1+1))≤z.fdiv (w^(p.1+1))
   exact Oz.o127 t2 this
  ·have d1:=Gk hw p
   have d2:=Gk hw (p.1,z)
   have d2:z.fdiv (w^p.1)=w*z.fdiv (w^(p.1+1))+dig w (p.1,z):=d2
   rw [te] at d2
   show dig w p<dig w (p.1,z)
   exact Oz.o201 f2 d1 d2
 | none =>
  rw [e] at h
  have hz:∀ z,nx (w^p.1) kept p.2=some z→¬ z≤n:=fun z hz hn=>by
   rw [hz] at e
   simp [Option.filter,hn] at e
  obtain⟨l,x⟩:=p
  cases l with
  | zero=>cases h
  | succ l =>
   cases h
   refine⟨⟨Nat.le_of_succ_le y.le,⟨y.here.1,fun z hz' hlt=>?_⟩,y.low,fun z hz' hn=>?_⟩,.inr ⟨rfl,rfl,hz⟩⟩
   ·have h1:=y.here.2 z hz' hlt
    have h1:z.fdiv (w^(l+1))<x.fdiv (w^(l+1)):=h1
    show z.fdiv (w^l)<x.fdiv (w^l)
    rcases Int.lt_or_le (z.fdiv (w^l)) (x.fdiv (w^l)) with q | q
    ·exact q
    ·have h2:=mf (P:=w) (Oz.o168 hw) q
     rw [u8 hw,u8 hw] at h2
     exact Oz.o199 h1 h2
   ·show z.fdiv (w^(l+1))≤x.fdiv (w^(l+1))
    cases e3:nx (w^(l+1)) kept x with
    | none=>exact J8 e3 z hz'
    | some u =>
     obtain⟨f1,f2,f3,f4⟩:=Ch (P0 (l+1)) s e3
     have:=hz u e3
     exact f4 z hz' (Oz.o202 hn this)
theorem zs {w n:Int}{H:Nat}{kept:List Int}{p:Nat×Int}(hw:2≤w) (s:kept.Pairwise (·<·)) (y:Wy w n H kept p) (h:stp w n kept p=Option.none):p.1=0∧∀ z,nx (w^p.1) kept p.2=some z→¬ z≤n:=by
 unfold stp at h
 cases e:(nx (w^p.1) kept p.2).filter (fun y=>decide (y≤n)) with
 | some z=>rw [e] at h; cases h
 | none =>
  rw [e] at h
  obtain⟨l,x⟩:=p
  cases l with
  | zero =>
   refine⟨rfl,fun z hz hn=>?_⟩
   rw [hz] at e
   simp [Option.filter,hn] at e
  | succ l=>cases h
theorem Lr {w n:Int}{H:Nat}{kept:List Int}{p q:Nat×Int}(hw:2≤w) (s:kept.Pairwise (·<·)) (y:Wy w n H kept p) (h:stp w n kept p=some q):rnk w q<rnk w p:=by
 rcases(ki hw s y h).2 with ⟨h1,_,_,h2⟩ | ⟨h1,h2,_⟩
 ·unfold rnk
  rw [h1]; exact Oz.o203 h2
 ·have d1:=wh hw p
  have d2:=wh hw q
  unfold rnk
  have:(p.1:Int)*w=(q.1:Int)*w+w:=by rw [h1]; push_cast; rw [Int.add_mul,Int.one_mul]
  rw [this]; exact Oz.o204 d1.2 d2.1
theorem wr {w:Int}(hw:2≤w) (p:Nat×Int):0≤rnk w p:=by
 have d1:=wh hw p
 have:0≤(p.1:Int)*w:=Int.mul_nonneg (by exact Oz.o205) (by exact Oz.o181 hw)
 unfold rnk; exact Oz.o206 d1.2 this
inductive Wlk (w n:Int) (kept:List Int):Nat×Int→List (Nat×Int)→Prop
 | stop {p:Nat×Int}:stp w n kept p=Option.none→Wlk w n kept p [p]
 | go {p q:Nat×Int}{l:List (Nat×Int)}:stp w n kept p=some q→Wlk w n kept q l→Wlk w n kept p (p::l)
theorem D5 {w n:Int}{H:Nat}{kept:List Int}(hw:2≤w) (s:kept.Pairwise (·<·)):∀ (m:Nat) (p:Nat×Int),rnk w p≤m→Wy w n H kept p→∃ l,Wlk w n kept p l∧(l.length:Int)≤rnk w p+1
 | m,p,hm,y=>by
  cases h:stp w n kept p with
  | none=>exact⟨[p],.stop h,by have:=wr hw p; simp; exact Oz.o207 this⟩
  | some q =>
   have hl:=Lr hw s y h
   have hp:=wr hw q
   cases m with
   | zero=>omega
   | succ m =>
    obtain⟨l,hl1,hl2⟩:=D5 hw s m q (by exact Oz.o208 hl hm) (ki hw s y h).1
    exact⟨p::l,.go h hl1,by simp; exact Oz.o209 hl hl2⟩
theorem Jg {w n:Int}{H:Nat}{kept:List Int}{x:Int}(hw:2≤w) (hH:1≤H) (s:kept.Pairwise (·<·)) (rng:∀ y∈kept,0≤y∧y<w^H) (hx:kept.head?=some x) (hn:x≤n) :
  Wy w n H kept (H,x)∧∃ l,Wlk w n kept (H,x) l∧(l.length:Int)≤H*w+1:=by
 have hm:x∈kept:=List.mem_of_mem_head? hx
 have least:∀ z∈kept,x≤z:=fun z hz=>by
  cases kept with
  | nil=>cases hz
  | cons a r =>
   cases hx
   rcases Oz.g6.mp hz with rfl | hz
   ·exact Int.le_refl _
   ·exact Int.le_of_lt ((List.pairwise_cons.mp s).1 z hz)
 have blk:∀ z∈kept,∀ l:Nat,H≤l→z.fdiv (w^l)=0:=fun z hz l hl=>by
  have r:=rng z hz
  have:w^H≤w^l:=by
   obtain⟨k,rfl⟩:=Nat.le.dest hl
   rw [Int.pow_add]
   have h1:0<w^H:=Int.pow_pos (by exact Oz.o168 hw)
   have h2:0<w^k:=Int.pow_pos (by exact Oz.o168 hw)
   have:=Int.mul_le_mul_of_nonneg_left (show(1:Int)≤w^k by exact Oz.o210 h2) (Int.le_of_lt h1)
   rwa [Int.mul_one] at this
  rw [Int.fdiv_eq_ediv_of_nonneg _ (Oz.o211 r.1 r.2 this)]
  exact Int.ediv_eq_zero_of_lt r.1 (Oz.o83 r.2 this)
 have y0:Wy w n H kept (H,x):=⟨Oz.g3 _,⟨hm,fun z hz hlt=>by have:=least z hz; omega⟩,hn,fun z hz ζ=>by
  show z.fdiv (w^(H+1))≤x.fdiv (w^(H+1))
  rw [blk z hz _ (Oz.o192),blk x hm _ (Oz.o192)]; exact Int.le_refl _⟩
 refine⟨y0,?_⟩
 have hnx:nx (w^H) kept x=Option.none:=List.find?_eq_none.mpr fun z hz=>by
  rw [blk z hz _ (Oz.g3 _),blk x hm _ (Oz.g3 _)]; simp
 refine Oz.z fun ζ η=>?_
 obtain⟨H',rfl⟩:∃ H',H=H'+1:=⟨H - 1,Oz.o170 hH⟩
 have hs:stp w n kept (H'+1,x)=some (H',x):=by
  show(match (nx (w^(H'+1)) kept x).filter (fun y=>decide (y≤n)) with
   | some y=>some (H'+1,y)
   | Option.none=>some (H',x))=_
  rw [hnx]; rfl
 have y1:=(ki hw s y0 hs).1
 obtain⟨l,hl1,hl2⟩:=D5 hw s (rnk w (H',x)).toNat (H',x) (by have:=wr hw (H',x); exact Oz.o212) y1
 refine η ?_
 refine⟨(H'+1,x)::l,.go hs hl1,?_⟩
 have d1:=wh hw (H',x)
 unfold rnk at hl2
 have:((H'+1:Nat):Int)*w=(H' : Int)*w+w:=by push_cast; rw [Int.add_mul,Int.one_mul]
 rw [this]
 have hl2:(l.length:Int)≤(H' : Int)*w+(w - 1 - dig w (H',x))+1:=hl2
 rw [List.length_cons]
 push_cast
 exact Oz.o213 d1.1 hl2
end Sk
namespace Sk
noncomputable def trB:CS:=(.seq (.asg 5 (.item (.meth (.loc 0) 10 (.cons (.loc 2) (.cons (.loc 3) .nil))) (.int 0)))
  (.seq (.ite (.and (.isC true (.loc 5) Option.none) (.cmp .le (.loc 5) (.loc 1))) (.seq (.asg 3 (.loc 5)) .skip) (.seq (.ite (.cmp .gt (.loc 2) (.int 0)) (.seq (.asg 2 (.bin .sub (.loc 2) (.int 1))) .skip) (.seq (.ret (.loc 4)) .skip)) .skip))
  (.seq (.ex (.bm .append (.loc 4) (.cons (.tup (.cons (.loc 2) (.cons (.loc 3) .nil))) .nil))) .skip)))
noncomputable def xg:CS:=(.seq (.ex (.meth (.loc 0) 1 (.cons (.loc 1) (.cons (.bin .sub (.attr (.loc 0) 2) (.int 1)) .nil))))
 (.seq (.ite (.or (.cmp .eq (.attr (.loc 0) 4) (.list .nil)) (.cmp .gt (.item (.attr (.loc 0) 4) (.int 0)) (.loc 1))) (.seq (.ret (.list .nil)) .skip) .skip)
 (.seq (.asg 2 (.attr (.loc 0) 1)) (.seq (.asg 3 (.item (.attr (.loc 0) 4) (.int 0))) (.seq (.asg 4 (.list (.cons (.tup (.cons (.loc 2) (.cons (.loc 3) .nil))) .nil))) (.seq (.whil (.bool true) trB) .skip))))))
structure PathAt (h:HP) (q:Nat) (ts:List Nat) (ps:List (Nat×Int)):Prop where
 len:ts.length=ps.length
 list:h[q]?=some (.list (ts.map .ref))
 tups:∀ (j t:Nat) p,ts[j]?=some t→ps[j]?=some p→h[t]?=some (.tup [.int (p.1:Nat),.int p.2])
theorem PathAt.ext {h h' : HP}{q:Nat}{ts:List Nat}{ps:List (Nat×Int)}{S:List Nat}(x:PathAt h q ts ps) (e:Ext S h h') (hq:q∉S) (ht:∀ t∈ts,t∉S):PathAt h' q ts ps :=
 ⟨x.len,e.get x.list hq,fun j t p h1 h2=>e.get (x.tups j t p h1 h2) (ht t (Oz.g16 h1))⟩
theorem PathAt.push {h:HP}{q:Nat}{ts:List Nat}{ps:List (Nat×Int)}{p:Nat×Int}(x:PathAt h q ts ps) (hq:∀ t∈ts,t≠q):PathAt ((h++[AO.tup [.int (p.1:Nat),.int p.2]]).set q (AO.list (ts.map AV.ref++[AV.ref h.length]))) q (ts++[h.length]) (ps++[p]):=by
 have hl:=au x.list
 refine⟨by simp [x.len],?_,fun j t p' h1 h2=>?_⟩
 ·rw [List.getElem?_set_self (by simp; exact Oz.o165 hl)]; simp
 ·rcases Nat.lt_or_ge j ts.length with hj | hj
  ·rw [Oz.g23 hj] at h1
   rw [Oz.g23 (by rw [← x.len]; exact hj)] at h2
   have h3:=x.tups j t p' h1 h2
   rw [Oz.g21 (Ne.symm (hq t (Oz.g16 h1)))]
   exact(Oz.g23 (au h3)).trans h3
  ·rw [Oz.g29 hj] at h1
   rw [Oz.g29 (by rw [← x.len]; exact hj)] at h2
   have h0:j - ts.length=0:=by have:=(Oz.g4.mp h1).1; simp at this; exact Oz.o166 this
   rw [h0] at h1
   rw [← x.len,h0] at h2
   cases h1; cases h2
   rw [Oz.g21 (Oz.o167 hl)]
   exact ak
structure LT (G:Gl) (X Y Z:CS):Prop extends LG G X where
 thinned:G.fns 1=some ⟨3,6,i1⟩
 level:G.fns 12=some ⟨2,2,nf Y⟩
 ahead:G.fns 13=some ⟨3,6,ng Z⟩
 m9:G.meth 0 9=some 12
 m10:G.meth 0 10=some 13
section
variable {G:Gl}{W n:Nat}{h:HP}{i d k:Nat}{w v:Int}{H:Nat}{kept:List Int}{X Y Z:CS}
theorem O0 {cl:CallO}{l:LOC}{o:Option Int}{a b:CE}(ha:ev G cl a l h=.ok (oav o) h) (hb:ev G cl b l h=.ok (.int v) h):ev G cl (.and (.isC true a Option.none) (.cmp .le a b)) l h=.ok (.bool (o.elim false fun y=>decide (y≤v))) h:=by
 cases o with
 | none=>exact ij (jo ha)
 | some y=>exact b5 (qb ha) (az ha hb vf)
noncomputable def tst (i:Nat) (v:Int) (q:Nat) (p:Nat×Int) (z:Option AV):LOC:=[some (.ref i),some (.int v),some (.int (p.1:Nat)),some (.int p.2),some (.ref q),z]
noncomputable def qq (h:HP) (q:Nat) (ts:List Nat) (p:Nat×Int):HP:=(h++[AO.tup [.int (p.1:Nat),.int p.2]]).set q (AO.list (ts.map AV.ref++[AV.ref h.length]))
set_option tactic.hygienic true in
theorem zp {cl:CallO}{l:LOC}{q a b f:Nat}{ts:List Nat}{p:Nat×Int}(hf:l[f]?=some (some (.ref q))) (ha:l[a]?=some (some (.int (p.1:Nat)))) (hb:l[b]?=some (some (.int p.2))) (hq:h[q]?=some (.list (ts.map .ref))) (hz:ts.length≤99998) :
  exec G cl W (.ex (.bm .append (.loc f) (.cons (.tup (.cons (.loc a) (.cons (.loc b) .nil))) .nil))) l h=.next l (qq h q ts p) :=
 ca (jd (aa hf) hq (j7 (ag (aa ha) (ag (aa hb) aj)) rfl) ((Oz.g23 (au hq)).trans hq) (decide_eq_true (by simp; exact Oz.g2 hz (by decide))))
set_option tactic.hygienic true in
theorem Fc {cl:CallO}{B:CS}{q:Nat}{St:Nat×Int→LOC→Prop}(hw:2≤w) (srt:kept.Pairwise (·<·)) (hqk:q≠k)
  (one:∀ {p l h ts},St p l→Wy w v H kept p→Lad h i d k w H kept→h[q]?=some (.list (ts.map .ref))→ts.length≤99998→∃ h1,Ext [] h h1∧(stp w v kept p=Option.none→exec G cl W B l h=.ret (.ref q) h1)∧∀ p2,stp w v kept p=some p2→∃ l2,St p2 l2∧exec G cl W B l h=.next l2 (qq h1 q ts p2))
  {ps:List (Nat×Int)}{p:Nat×Int}(wl:Wlk w v kept p ps):∀ {dn:List (Nat×Int)}{ts:List Nat}{fuel:Nat}{l:LOC}{h:HP},St p l→Wy w v H kept p→ps.length≤fuel→dn.length+ps.length≤99998→Lad h i d k w H kept→PathAt h q ts (dn++[p])→(∀ t∈ts,t≠q) →
  Oz.E2 fun h' ts'=>gq (fun l' h'=>ev G cl (.bool true) l' h') (fun l' h'=>exec G cl W B l' h') fuel l h=.ret (.ref q) h'∧PathAt h' q ts' (dn++ps)∧Ext [q] h h'∧(∀ t∈ts',t≠q):=by
 induction wl with
 | @stop p hs =>
  intro dn ts fuel l h sl y hf hz L pa hne
  obtain⟨h1,x1,e,_⟩:=one sl y L pa.list (by rw [pa.len,Oz.g26]; exact hz)
  cases fuel with
  | zero=>cases hf
  | succ f=>exact⟨h1,ts,Nv jc (e hs),pa.ext x1 Oz.g0 (fun ζ ζ=>Oz.g0),x1.mono (fun ζ q=>absurd q Oz.g0),hne⟩
 | @go p p2 ps hs _ ih =>
  intro dn ts fuel l h sl y hf hz L pa hne
  have hl:ts.length=dn.length+1:=by rw [pa.len,Oz.g26]; rfl
  have hz:dn.length+(ps.length+1)≤99998:=hz
  refine Oz.z fun ζ η=>?_
  obtain⟨h1,x1,_,e⟩:=one sl y L pa.list (by exact Oz.o968 hl hz)
  obtain⟨l2,sl2,e⟩:=e p2 hs
  refine η ?_
  have pa1:=pa.ext x1 Oz.g0 (fun ζ ζ=>Oz.g0)
  have hql:=au pa1.list
  have pa2:=pa1.push (p:=p2) hne
  have x2:Ext [q] h1 (qq h1 q ts p2):=(Ext.app (S:=[q])).trans (Ext.set (.head _))
  have L1:=L.ext x1 Oz.g0 Oz.g0 Oz.g0
  have L2:Lad (qq h1 q ts p2) i d k w H kept:=L1.ext x2 (fun e=>by have:=pa1.list; rw [← Oz.g9.mp e,L1.inst] at this; cases this) (fun e=>by have:=pa1.list; rw [← Oz.g9.mp e,L1.flds] at this; cases this) (fun e=>hqk (Oz.g9.mp e).symm)
  cases fuel with
  | zero=>cases hf
  | succ f =>
   refine Oz.z fun ζ1 η1=>?_
   obtain⟨h',ts',e2,pa3,x3,hne3⟩:=ih (dn:=dn++[p]) (fuel:=f) sl2 (ki hw srt y hs).1 (Nat.le_of_succ_le_succ hf) (by rw [Oz.g26]; show dn.length+1+_≤_; exact Oz.o969 hz) L2 pa2 (fun t ht=>(Oz.g1.mp ht).elim (hne t) fun ht=>by rw [Oz.g9.mp ht]; exact(Nat.ne_of_lt hql).symm)
   refine η1 ?_
   rw [Oz.g19] at pa3
   exact⟨h',ts',vk jc e e2,pa3,((x1.mono (fun ζ q=>absurd q Oz.g0)).trans x2).trans x3,hne3⟩
set_option tactic.hygienic true in
theorem Ai {cl:CallO}{B:CS}{x:Int}{l:LOC}{St:Nat×Int→LOC→Prop}(ok:Ok w H kept W) (hW:120≤W) (L:Lad h i d k w H kept) (hd:kept.head?=some x) (xv:x≤v) (sl:St (H,x) l)
  (one:∀ {p l h' ts},St p l→Wy w v H kept p→Lad h' i d k w H kept→h'[h.length+1]?=some (.list (ts.map .ref))→ts.length≤99998→∃ h1,Ext [] h' h1∧(stp w v kept p=Option.none→exec G cl W B l h'=.ret (.ref (h.length+1)) h1)∧∀ p2,stp w v kept p=some p2→∃ l2,St p2 l2∧exec G cl W B l h'=.next l2 (qq h1 (h.length+1) ts p2)) :
  Oz.E3 fun h' ps ts=>exec G cl W (.whil (.bool true) B) l (h++[.tup [.int (H:Nat),.int x]]++[.list [.ref h.length]])=.ret (.ref (h.length+1)) h'∧Ext [] h h'∧Wy w v H kept (H,x)∧Wlk w v kept (H,x) ps∧(ps.length:Int)≤H*w+1∧PathAt h' (h.length+1) ts ps∧(∀ t∈ts,t≠h.length+1):=by
 refine Oz.z fun ζ η=>?_
 obtain⟨wy,ps,wl,hl⟩:=Jg (n:=v) ok.w2 ok.h1 ok.srt ok.rng hd xv
 have h2:=Int.mul_le_mul (Int.ofNat_le.mpr ok.h12) ok.w9 (by have:=ok.w2; exact Oz.o181 this) (by decide)
 have hl' : ps.length≤109:=by exact Oz.o970 hl h2
 have x3:Ext [] h (h++[AO.tup [.int (H:Nat),.int x]]++[AO.list [.ref h.length]]):=Ext.app.trans Ext.app
 have f3:(h++[AO.tup [.int (H:Nat),.int x]]++[AO.list [.ref h.length]])[h.length+1]?=some (.list [.ref h.length]):=by
  rw [show h.length+1=(h++[AO.tup [.int (H:Nat),.int x]]).length by rw [Oz.g26]; rfl]; exact ak
 have f2:(h++[AO.tup [.int (H:Nat),.int x]]++[AO.list [.ref h.length]])[h.length]?=some (.tup [.int (H:Nat),.int x]):=by rw [Oz.g19]; exact ak
 have pa:PathAt _ (h.length+1) [h.length] ([]++[(H,x)]):=⟨rfl,f3,fun j t p a b=>by
  cases j with
  | zero=>cases a; cases b; exact f2
  | succ j=>cases a⟩
 obtain⟨h',ts,e,pa',x4,hne⟩:=Fc (W:=W) ok.w2 ok.srt (show h.length+1≠k from fun e=>by have:=au L.list; exact Oz.o971 e this) one wl (fuel:=W) (dn:=[]) sl wy (by exact Oz.o972 hW hl') (by show 0+_≤_; exact Oz.o973 hl') (L.ext x3 Oz.g0 Oz.g0 Oz.g0) pa (fun t ht=>by rw [Oz.g9.mp ht]; exact(Nat.succ_ne_self _).symm)
 refine η ?_
 exact⟨h',ps,ts,zo e,⟨Oz.g2 x3.len x4.len,fun j hj ζ=>(x4.keep j (Oz.g27 hj x3.len) (fun q=>by have:=Oz.g9.mp q; exact Oz.o974 hj this)).trans (x3.keep j hj Oz.g0)⟩,wy,wl,hl,pa',hne⟩
set_option tactic.hygienic true in
theorem D9 {q:Nat}{p:Nat×Int}{z:Option AV}{ts:List Nat}(g:LT G X Y Z) (ok:Ok w H kept W) (y:Wy w v H kept p) (L:Lad h i d k w H kept) (hq:h[q]?=some (.list (ts.map .ref))) (hz:ts.length≤99998) :
  ∃ h1,Ext [] h h1∧(stp w v kept p=Option.none→exec G (ae G W (n+4)) W trB (tst i v q p z) h=.ret (.ref q) h1)∧∀ p2,stp w v kept p=some p2→∃ l2,(∃ z,l2=tst i v q p2 z)∧exec G (ae G W (n+4)) W trB (tst i v q p z) h=.next l2 (qq h1 q ts p2):=by
 have P0:0<w^p.1:=Int.pow_pos (by have:=ok.w2; exact Oz.o168 this)
 have th:=u7 P0 ok.srt y.here
 refine Oz.z fun ζ η=>?_
 obtain⟨h1,q',p',gg,ea,_,ht,x1,_⟩:=wu (n:=n) (lv:=p.1) (N:=p.2) g.power g.thinned g.lesser g.level g.m2 g.m9 g.ahead L ok y.le th
 refine η ?_
 rw [rf P0 ok.srt th] at ht
 have s0:=fun hs=>zs ok.w2 ok.srt y hs
 have s2:=fun p2 hs=>(ki (q:=p2) ok.w2 ok.srt y hs).2
 generalize nx (w^p.1) kept p.2=o at *
 have s1:exec G (ae G W (n+4)) W (.asg 5 (.item (.meth (.loc 0) 10 (.cons (.loc 2) (.cons (.loc 3) .nil))) (.int 0))) (tst i v q p z) h=.next (tst i v q p (some (oav o))) h1 :=
  am (bc (L.em rfl g.m10 (es2 rfl rfl) ea) ai (pr0 ht))
 have t:=O0 (G:=G) (cl:=ae G W (n+4)) (h:=h1) (v:=v) (o:=o) (l:=tst i v q p (some (oav o))) (a:=.loc 5) (b:=.loc 1) (aa rfl) (aa rfl)
 have hq1:=x1.get hq Oz.g0
 have no:(∀ u,o=some u→¬ u≤v)→(o.elim false fun y=>decide (y≤v))=false:=fun hn=>by
  cases o with
  | none=>rfl
  | some u=>exact decide_eq_false (hn u rfl)
 have t2:=fun(b:Bool) (hb:decide (0<(p.1:Int))=b)=>hb ▸ az (G:=G) (cl:=ae G W (n+4)) (h:=h1) (h1:=h1) (h2:=h1) (l:=tst i v q p (some (oav o))) (a:=.loc 2) (b:=.int 0) (o:=.gt) (aa rfl) ai (vg (i:=(p.1:Nat)) (j:=0))
 refine⟨h1,x1,fun hs=>?_,fun p2 hs=>?_⟩
 ·obtain⟨h0,hn⟩:=s0 hs
  rw [no hn] at t
  exact af s1 (av (ap t (av (ap (t2 _ (decide_eq_false (Oz.o169 h0))) (av (bi (aa rfl)))))))
 ·obtain⟨m,u⟩:=p2
  rcases s2 _ hs with ⟨a1,a2,a3,_⟩ | ⟨a1,a2,a3⟩
  ·cases a1
   subst a2
   have t:_=R.ok (AV.bool (decide (u≤v))) h1:=t
   rw [decide_eq_true a3] at t
   exact⟨_,⟨_,rfl⟩,af s1 (af (be t (af (am (aa rfl)) ah)) (af (zp (l:=tst i v q (p.1,u) (some (oav (some u)))) rfl rfl rfl hq1 hz) ah))⟩
  ·cases a2
   rw [no a3] at t
   have e1:((p.1:Nat):Int) - 1=(m:Nat):=Oz.o172 a1
   have s3:=am (W:=W) (k:=2) (aq (G:=G) (cl:=ae G W (n+4)) (h:=h1) (l:=tst i v q p (some (oav o))) (a:=.loc 2) (b:=.int 1) (o:=.sub) (aa rfl) ai fj)
   rw [e1] at s3
   exact⟨_,⟨_,rfl⟩,af s1 (af (ap t (af (be (t2 _ (decide_eq_true (Oz.o171 a1))) (af s3 ah)) ah)) (af (zp (l:=tst i v q (m,p.2) (some (oav o))) rfl rfl rfl hq1 hz) ah))⟩
set_option tactic.hygienic true in
theorem J2 (g:LT G X Y Z) (hG:G.fns 14=some ⟨2,6,xg⟩) (L:Lad h i d k w H kept) (ok:Ok w H kept W) (hW:120≤W) (v0:0≤v) (v1:v<w^H):Oz.E2 fun h' q=>ae G W (n+5) 14 [.ref i,.int v] h=.ok (.ref q) h'∧h.length≤q∧Ext [] h h' ∧
  (((∀ x,kept.head?=some x→v<x)∧h'[q]?=some (.list []))∨Oz.E3 fun x ps ts=>kept.head?=some x∧x≤v∧Wy w v H kept (H,x)∧Wlk w v kept (H,x) ps∧(ps.length:Int)≤H*w+1∧PathAt h' q ts ps∧(∀ t∈ts,t≠q)):=by
 have nd:ae G W (n+4) 4 [.ref i,.int v,.int (w^H - 1)] h=.ok .none h:=nl g.need v0 (Oz.o178 v1)
 have s0:exec G (ae G W (n+4)) W (.ex (.meth (.loc 0) 1 (.cons (.loc 1) (.cons (.bin .sub (.attr (.loc 0) 2) (.int 1)) .nil)))) [some (.ref i),some (.int v),Option.none,Option.none,Option.none,Option.none] h=.next [some (.ref i),some (.int v),Option.none,Option.none,Option.none,Option.none] h :=
  ca (L.em rfl g.m1 (ag (aa rfl) (ag (aq (L.ea rfl rfl) ai fj) aj)) nd)
 obtain⟨h1,hh1⟩:∃ h1:HP,h1=h++[.list []]:=⟨_,rfl⟩
 have x1:Ext [] h h1:=hh1 ▸ Ext.app
 have L1:Lad h1 i d k w H kept:=L.ext x1 Oz.g0 Oz.g0 Oz.g0
 have em:h1[h.length]?=some (.list []):=by rw [hh1]; exact ak
 have t1:ev G (ae G W (n+4)) (.cmp .eq (.attr (.loc 0) 4) (.list .nil)) [some (.ref i),some (.int v),Option.none,Option.none,Option.none,Option.none] h=.ok (.bool (kept.map AV.int).isEmpty) h1:=by
  refine az (L.ea rfl rfl) (b3 aj rfl) ?_
  rw [← hh1]
  exact qc L1.list em
 have fin:∀ l,exec G (ae G W (n+4)) W (.seq (.ret (.list .nil)) .skip) l h1=.ret (.ref h1.length) (h1++[.list []]):=fun l=>av (bi (b3 aj rfl))
 cases hk:kept with
 | nil =>
  subst hk
  exact⟨h1++[.list []],h1.length,bj hG rfl (af s0 (av (be (Ds t1) (fin _)))),x1.len,x1.trans Ext.app,.inl ⟨fun x hx=>(by cases hx),ak⟩⟩
 | cons x r =>
  rw [hk] at t1
  have t1:ev G (ae G W (n+4)) (.cmp .eq (.attr (.loc 0) 4) (.list .nil)) [some (.ref i),some (.int v),Option.none,Option.none,Option.none,Option.none] h=.ok (.bool false) h1:=t1
  have it:dh (.ref k) (.int 0) h1=.ok (.int x) h1:=bh (k:=0) L1.list (by rw [hk]; rfl)
  have t2:ev G (ae G W (n+4)) (.cmp .gt (.item (.attr (.loc 0) 4) (.int 0)) (.loc 1)) [some (.ref i),some (.int v),Option.none,Option.none,Option.none,Option.none] h1=.ok (.bool (decide (v<x))) h1 :=
   az (bc (L1.ea rfl rfl) ai it) (aa rfl) vg
  by_cases c:v<x
  ·rw [decide_eq_true c] at t2
   exact⟨h1++[.list []],h1.length,bj hG rfl (af s0 (av (be (eu t1 t2) (fin _)))),x1.len,x1.trans Ext.app,.inl ⟨fun y hy=>(by cases hy; exact c),ak⟩⟩
  ·rw [decide_eq_false c] at t2
   have hd:kept.head?=some x:=by rw [hk]; rfl
   refine Oz.z fun ζ η=>?_
   obtain⟨h',ps,ts,e,x4,wy,wl,hl,pa,hne⟩:=Ai (St:=fun p l=>∃ z,l=tst i v (h1.length+1) p z) ok hW L1 hd (Oz.o179 c) ⟨Option.none,rfl⟩ (fun {p l h' ts} sl y L' hq hz=>by
    obtain⟨z,rfl⟩:=sl
    exact D9 (n:=n) g ok y L' hq hz)
   refine η ?_
   refine⟨h',h1.length+1,bj hG rfl (af s0 (af (ap (eu t1 t2) ah) (af (am (L1.ea rfl rfl)) (af (am (bc (L1.ea rfl rfl) ai it))
    (af (am (b3 (ag (j7 (es2 rfl rfl) rfl) aj) rfl)) (av ?_)))))),Nat.le_succ_of_le x1.len,x1.trans x4,.inr ⟨x,ps,ts,rfl,Oz.o179 c,hk ▸ wy,hk ▸ wl,hl,pa,hne⟩⟩
   rw [Oz.g26]
   exact e
end
end Sk
namespace Sk
section
variable {G:Gl}{cl:CallO}{W:Nat}{l l1:LOC}{h h1 h2:HP}{a b:CE}{c d:Nat}
theorem o8 {m:PySem.Str}:exec G cl W (.raise c m) l h=.exc c l h:=rfl
theorem om {e:CE}(he:ev G cl e l h=.exc c h1):exec G cl W (.ex e) l h=.exc c l h1:=by
 show(ev G cl e l h).thn l _=_
 rw [he]; rfl
theorem qe {f:Nat}{fn:Fn}{args:List AV}{n:Nat}(hf:G.fns f=some fn) (ha:args.length=fn.np) (he:exec G (ae G W n) W fn.code (args.map some++List.replicate (fn.ns - fn.np) Option.none) h=.exc c l1 h1) :
  ae G W (n+1) f args h=.exc c h1:=by
 show(match G.fns f with | some fn=>fn.run G (ae G W n) W args h | Option.none=>.err)=_
 rw [hf]
 show fn.run G (ae G W n) W args h=_
 unfold Fn.run
 rw [if_pos ha,he]
set_option tactic.hygienic true in
theorem Nu {p:CS}{hs:CHs}(hb:exec G cl W p l h=.next l1 h1):exec G cl W (.tr p hs) l h=.next l1 h1:=by
 show(match exec G cl W p l h with | .exc c l' h'=>hand G cl W hs c l' h' | r=>r)=_
 rw [hb]
theorem qf {p:CS}{hs:CHs}{r:RS}(hb:exec G cl W p l h=.exc c l1 h1) (hh:hand G cl W hs c l1 h1=r):exec G cl W (.tr p hs) l h=r:=by
 show(match exec G cl W p l h with | .exc c l' h'=>hand G cl W hs c l' h' | r=>r)=_
 rw [hb]; exact hh
set_option tactic.hygienic true in
theorem wf {p:CS}{r:CHs}(hs:G.sub c d=true) (he:exec G cl W p l h=.next l1 h1):hand G cl W (.cons d Option.none p r) c l h=.next l1 h1:=by
 show(if G.sub c d then (exec G cl W p l h).noexc else _)=_
 rw [if_pos hs,he]; rfl
theorem Nf {k:Nat}{p:CS}{r:CHs}{v:AV}(hs:G.sub c d=true) (he:exec G cl W p (l.set k (some (.ref h.length))) (h++[.exc c])=.ret v h1):hand G cl W (.cons d (some k) p r) c l h=.ret v h1:=by
 show(if G.sub c d then ((exec G cl W p (l.set k (some (.ref h.length))) (h++[.exc c])).noexc).thn _ else _)=_
 rw [if_pos hs,he]; rfl
set_option tactic.hygienic true in
theorem Oa {k:Nat}{p:CS}{r:CHs}(hs:G.sub c d=true) (he:exec G cl W p (l.set k (some (.ref h.length))) (h++[.exc c])=.next l1 h1):hand G cl W (.cons d (some k) p r) c l h=.next (l1.set k Option.none) h1:=by
 show(if G.sub c d then ((exec G cl W p (l.set k (some (.ref h.length))) (h++[.exc c])).noexc).thn _ else _)=_
 rw [if_pos hs,he]; rfl
theorem Nd {as_:Option Nat}{p:CS}{r:CHs}{rr:RS}(hs:G.sub c d=false) (he:hand G cl W r c l h=rr):hand G cl W (.cons d as_ p r) c l h=rr:=by
 show(if G.sub c d then _ else hand G cl W r c l h)=_
 rw [if_neg (by rw [hs]; decide)]; exact he
theorem Bg {i:Nat}(ha:ev G cl a l h=.ok (.ref i) h1) (hi:h1[i]?=some (.exc c)):ev G cl (.isinst a .valueError) l h=.ok (.bool true) h1:=by
 show(ev G cl a l h).bind _=_
 rw [ha]
 show ja G.sub .valueError (.ref i) h1=_
 show(h1[i]?).elim (R.err:R AV) _=_
 rw [hi]; rfl
theorem H6 {i:Nat}(ha:ev G cl a l h=.ok (.ref i) h1) (hi:h1[i]?=some (.exc c)):ev G cl (.isinst a (.own d)) l h=.ok (.bool (G.sub c d)) h1:=by
 show(ev G cl a l h).bind _=_
 rw [ha]
 show ja G.sub (.own d) (.ref i) h1=_
 show(h1[i]?).elim (R.err:R AV) _=_
 rw [hi]; rfl
theorem Cv {i:Nat}(ha:ev G cl a l h=.ok (.ref i) h1) (hi:h1[i]?=some (.exc c)) (hs:G.sub c d=true):ev G cl (.isinst a (.own d)) l h=.ok (.bool true) h1:=by
 rw [H6 ha hi,hs]
theorem qy {m:Nat}:∀ {xs ys:List AV},xs.length=ys.length→(∀ (j:Nat) x y,xs[j]?=some x→ys[j]?=some y→eqv m h x y=some true)→b9 (List.zipWith (eqv m h) xs ys)=some true
 | [],[],_,_=>rfl
 | [],_::_,e,_=>by cases e
 | _::_,[],e,_=>by cases e
 | x::xs,y::ys,e,hs=>by
  show b9 (eqv m h x y::List.zipWith (eqv m h) xs ys)=_
  rw [hs 0 x y rfl rfl]
  show(b9 (List.zipWith (eqv m h) xs ys)).map (true&&·)=_
  rw [qy (Nat.succ.inj e) fun j a b h1 h2=>hs (j+1) a b h1 h2]; rfl
theorem n8 {m i j:Nat}{xs ys:List AV}(hi:h[i]?=some (.list xs)) (hj:h[j]?=some (.list ys)) (hl:xs.length=ys.length) (hs:∀ (j:Nat) x y,xs[j]?=some x→ys[j]?=some y→eqv m h x y=some true):eqv (m+1) h (.ref i) (.ref j)=some true:=by
 have u:eqv (m+1) h (.ref i) (.ref j)=(match h[i]?,h[j]? with
   | some (.list xs),some (.list ys)=>if xs.length=ys.length then b9 (List.zipWith (eqv m h) xs ys) else some false
   | some (.tup xs),some (.tup ys)=>if xs.length=ys.length then b9 (List.zipWith (eqv m h) xs ys) else Option.none
   | _,_=>Option.none):=rfl
 rw [u,hi,hj]
 show(if xs.length=ys.length then b9 (List.zipWith (eqv m h) xs ys) else some false)=_
 rw [if_pos hl]; exact qy hl hs
theorem u9 {m i j:Nat}{xs ys:List AV}(hi:h[i]?=some (.tup xs)) (hj:h[j]?=some (.tup ys)) (hl:xs.length=ys.length) (hs:∀ (j:Nat) x y,xs[j]?=some x→ys[j]?=some y→eqv m h x y=some true):eqv (m+1) h (.ref i) (.ref j)=some true:=by
 have u:eqv (m+1) h (.ref i) (.ref j)=(match h[i]?,h[j]? with
   | some (.list xs),some (.list ys)=>if xs.length=ys.length then b9 (List.zipWith (eqv m h) xs ys) else some false
   | some (.tup xs),some (.tup ys)=>if xs.length=ys.length then b9 (List.zipWith (eqv m h) xs ys) else Option.none
   | _,_=>Option.none):=rfl
 rw [u,hi,hj]
 show(if xs.length=ys.length then b9 (List.zipWith (eqv m h) xs ys) else Option.none)=_
 rw [if_pos hl]; exact qy hl hs
theorem f5 {m:Nat}(o:Option Int):eqv (m+1) h (oav o) (oav o)=some true:=by
 cases o with
 | none=>rfl
 | some v=>exact congrArg some (decide_eq_true rfl)
theorem Jb {x y:AV}(e:eqv 6 h x y=some true):cj .eq x y h=.ok (.bool true) h:=by
 show(match eqv 6 h x y with | some r=>R.ok (AV.bool r) h | Option.none=>.err)=_
 rw [e]
theorem Dz {x y:AV}(e:eqv 6 h x y=some true):cj .ne x y h=.ok (.bool false) h:=by
 show(match eqv 6 h x y with | some r=>R.ok (AV.bool (!r)) h | Option.none=>.err)=_
 rw [e]; rfl
theorem zb {i j:Nat}{xs:List AV}(hi:h[i]?=some (.list xs)) (hj:h[j]?=some (.list [])):cj .ne (.ref i) (.ref j) h=.ok (.bool (!xs.isEmpty)) h:=by
 have e:=qc hi hj
 show(match eqv 6 h (.ref i) (.ref j) with | some r=>R.ok (AV.bool (!r)) h | Option.none=>.err)=_
 have e:(match eqv 6 h (.ref i) (.ref j) with | some r=>R.ok (AV.bool r) h | Option.none=>.err)=.ok (.bool xs.isEmpty) h:=e
 cases q:eqv 6 h (.ref i) (.ref j) with
 | none=>rw [q] at e; cases e
 | some r=>rw [q] at e; injection e with e1 e2; injection e1 with e1; rw [e1]
theorem vh {i:Nat}{ks:List Int}(hi:h[i]?=some (.list (ks.map .int))) (hz:ks.length<64):fw .sorted [.ref i] h=.ok (.ref h.length) (h++[.list ((jf ks).map .int)]):=Bo hi (by
 show(f7 (ks.map .int)).bind _=_
 rw [mz]
 exact if_pos hz)
end
end Sk
namespace Sk
section
variable {G:Gl}{W N:Nat}{h:HP}{X Y Z:CS}{ns:List Int}
structure Kept (w:Int) (H:Nat) (kept:List Int):Prop where
 srt:kept.Pairwise (·<·)
 rng:∀ y∈kept,0≤y∧y<w^H
theorem Kept.put {w:Int}{H p:Nat}{kept:List Int}{v:Int}(x:Kept w H kept) (hp:Pl kept v p) (hn:v∉kept) (h0:0≤v) (h1:v<w^H):Kept w H (kept.take p++v::kept.drop p):=by
 refine⟨Ce x.srt hp hn,fun y hy=>?_⟩
 rcases Oz.g1.mp hy with q | q
 ·exact x.rng y (List.mem_of_mem_take q)
 ·rcases Oz.g6.mp q with rfl | q
  ·exact⟨h0,h1⟩
  ·exact x.rng y (List.mem_of_mem_drop q)
theorem Cf {kept:List Int}{v:Int}{p:Nat}:(kept.take p++v::kept.drop p).length=kept.length+1:=by
 have s1:=congrArg List.length (List.take_append_drop p kept)
 simp at s1 ⊢
 exact Oz.o291
end
end Sk
namespace Sk
section
variable {G:Gl}{W n:Nat}{h:HP}{i d k:Nat}{w:Int}{H:Nat}{kept:List Int}{X Y:CS}
theorem Ey {n j:Nat}{v:AV}(hj:((List.range n).map fun(k:Nat)=>AV.int (k:Int))[j]?=some v):j<n∧v=.int (j:Int):=by
 have h1:j<n:=by have:=(Oz.g4.mp hj).1; simpa using this
 rw [Oz.g12,List.getElem?_range h1] at hj
 cases hj; exact⟨h1,rfl⟩
theorem kr {l:LOC}{r s:Nat}{p:Int→Bool}{c:CE}{cl:CallO}{m:Nat}(hm:l.length=m) (hr:h[r]?=some (.list (kept.map .int))) (l0:l[s]?=some (some (.ref r))) (hz:kept.length≤99999) (hc:∀ x,ev G cl c (l++[some (.int x)]) h=.ok (.bool (p x)) h) :
  ev G cl (.comp (.loc m) .val (.cons (.loc s) .nil) c) l h=.ok (.ref h.length) (h++[.list ((kept.filter p).map .int)]):=by
 have cm:=sx (h:=h) (g:=some (r,.list (kept.map .int))) (cond:=fun v h'=>ev G cl c (l++[some v]) h') (elt:=fun v h'=>ev G cl (.loc m) (l++[some v]) h') (e:=AV.int) (f:=AV.int) (p:=p) (b4 hr) kept (fun x ζ=>hc x)
  (fun x ζ ζ=>aa (by rw [← hm,Oz.g29 (Oz.g3 _),Nat.sub_self]; rfl))
 exact Gi (ag (aa l0) aj) (bw hr) (decide_eq_true (by rw [Oz.g13]; exact Oz.o253 hz)) cm
end
end Sk
namespace Sk
theorem yw {kept:List Int}{N:Int}{p:Nat}(hp:Pl kept N p):kept.filter (fun x=>decide (x<N))=kept.take p:=by
 conv=>lhs; rw [← List.take_append_drop p kept]
 rw [List.filter_append]
 have e1:(kept.take p).filter (fun x=>decide (x<N))=kept.take p:=List.filter_eq_self.mpr fun x hx=>by
  obtain⟨j,hj⟩:=List.getElem?_of_mem hx
  have hl:=(Oz.g4.mp hj).1
  have hl' : j<p:=by simp at hl; exact Oz.o254 hl
  rw [List.getElem?_take_of_lt hl'] at hj
  exact decide_eq_true (hp.lo j x hl' hj)
 have e2:(kept.drop p).filter (fun x=>decide (x<N))=[]:=List.filter_eq_nil_iff.mpr fun x hx=>by
  obtain⟨j,hj⟩:=List.getElem?_of_mem hx
  rw [List.getElem?_drop] at hj
  have:=hp.hi (p+j) x (Oz.o124) hj
  simp; exact Oz.o194 this
 rw [e1,e2,List.append_nil]
theorem Gf {kept:List Int}{N:Int}{p m:Nat}(hp:∀ j y,j<m→kept[j]?=some y→y≤N) (hi:∀ j y,m≤j→kept[j]?=some y→N<y):kept.filter (fun x=>decide (N<x))=kept.drop m:=by
 conv=>lhs; rw [← List.take_append_drop m kept]
 rw [List.filter_append]
 have e1:(kept.take m).filter (fun x=>decide (N<x))=[]:=List.filter_eq_nil_iff.mpr fun x hx=>by
  obtain⟨j,hj⟩:=List.getElem?_of_mem hx
  have hl:=(Oz.g4.mp hj).1
  have hl' : j<m:=by simp at hl; exact Oz.o254 hl
  rw [List.getElem?_take_of_lt hl'] at hj
  have:=hp j x hl' hj
  simp; exact Oz.o194 this
 have e2:(kept.drop m).filter (fun x=>decide (N<x))=kept.drop m:=List.filter_eq_self.mpr fun x hx=>by
  obtain⟨j,hj⟩:=List.getElem?_of_mem hx
  rw [List.getElem?_drop] at hj
  exact decide_eq_true (hi (m+j) x (Oz.o124) hj)
 rw [e1,e2,List.nil_append]
end Sk
namespace Sk
end Sk
namespace Sk
section
variable {G:Gl}{W n:Nat}{h:HP}{i d k:Nat}{w v:Int}{H:Nat}{kept:List Int}{Y Z:CS}{m5 m6:PySem.Str}
theorem Fa {u:Int}{lv:Nat}(h0:G.fns 0=some ⟨2,4,jh⟩) (h1:G.fns 1=some ⟨3,6,i1⟩) (g12:G.fns 12=some ⟨2,2,nf Y⟩) (g13:G.fns 13=some ⟨3,6,ng (.raise 5 m5)⟩) (m9:G.meth 0 9=some 12) (L:Lad h i d k w H kept) (ok:Ok w H kept W) (hlv:lv≤H) (hu:u∉ay (w^lv) Option.none kept) :
  ∃ h',ae G W (n+4) 13 [.ref i,.int lv,.int u] h=.exc 5 h'∧Ext [] h h' := by
 obtain⟨gb,lvl⟩:=pj (W:=W) (n:=n) (lv:=lv) h0 h1 g12 L ok hlv
 have t1:=ju (t:=true) (n:=u) (h:=h++.list ((ay (w^lv) Option.none kept).map .int)::gb) (i:=h.length) ak
 rw [decide_eq_false hu] at t1
 exact⟨_,qe g13 rfl (af (am (L.em rfl m9 (es1 rfl) lvl)) (de (be (ii (aa rfl) (aa rfl) t1) (de o8)))),Ext.app⟩
end
end Sk
namespace Sk
noncomputable def xi:CS:=(.seq (.ex (.meth (.loc 0) 1 (.cons (.loc 1) (.cons (.bin .sub (.attr (.loc 0) 2) (.int 1)) .nil)))) (.seq (.asg 2 (.meth (.loc 0) 2 (.cons (.bin .add (.loc 1) (.int 1)) .nil)))
 (.seq (.ite (.cmp .eq (.loc 2) (.int 0)) (.seq (.ret .none) .skip) .skip) (.seq (.ret (.item (.attr (.loc 0) 4) (.bin .sub (.loc 2) (.int 1)))) .skip))))
noncomputable def xk:CS:=(.seq (.ex (.meth (.loc 0) 1 (.cons (.loc 1) (.cons (.bin .sub (.attr (.loc 0) 2) (.int 1)) .nil)))) (.seq (.asg 2 (.meth (.loc 0) 2 (.cons (.loc 1) .nil)))
 (.seq (.ite (.cmp .eq (.loc 2) (.bf .len (.cons (.attr (.loc 0) 4) .nil))) (.seq (.ret .none) .skip) .skip) (.seq (.ret (.item (.attr (.loc 0) 4) (.loc 2))) .skip))))
section
variable {G:Gl}{W n:Nat}{h:HP}{i d k:Nat}{w v:Int}{H:Nat}{kept:List Int}{X Y Z:CS}{m3:PySem.Str}
theorem J6 (g:LG G X) (hG:G.fns 15=some ⟨2,3,xi⟩) (L:Lad h i d k w H kept) (ok:Ok w H kept W) (v0:0≤v) (v1:v<w^H):ae G W (n+2) 15 [.ref i,.int v] h=.ok (oav (kept.reverse.filter fun x=>decide (x≤v)).head?) h:=by
 have nd:ae G W (n+1) 4 [.ref i,.int v,.int (w^H - 1)] h=.ok .none h:=nl g.need v0 (Oz.o178 v1)
 obtain⟨p,hp,ls⟩:=jn (W:=W) (n:=n) (v:=v+1) g.lesser L ok.srt (by have:=ok.few; exact Oz.o240 this)
 have e1:(kept.reverse.filter fun x=>decide (x≤v)).head?=bef kept p:=by
  have e:(fun x:Int=>decide (x≤v))=fun x=>decide (x<v+1):=funext fun x=>by
   by_cases q:x≤v
   ·rw [decide_eq_true q,decide_eq_true (Oz.o241 q)]
   ·rw [decide_eq_false q,decide_eq_false (Oz.o242 q)]
  rw [e,List.filter_reverse,yw hp,List.head?_reverse,← Dn kept p hp.le]
  cases hh:(kept.take p).reverse with
  | nil=>rw [List.reverse_eq_nil_iff.mp hh]; rfl
  | cons y t =>
   have e' : kept.take p=t.reverse++[y]:=by rw [← List.reverse_reverse (kept.take p),hh,List.reverse_cons]
   rw [e',lf]; simp
 rw [e1]
 refine bj hG rfl (af (ca (L.em rfl g.m1 (ag (aa rfl) (ag (aq (L.ea rfl rfl) ai fj) aj)) nd)) (af (am (L.em rfl g.m2 (ag (aq (aa rfl) ai b8) aj) ls)) ?_))
 have t:ev G (ae G W (n+1)) (.cmp .eq (.loc 2) (.int 0)) [some (.ref i),some (.int v),some (.int (p:Nat))] h=.ok (.bool (decide ((p:Int)=0))) h:=az (aa rfl) ai oj
 cases p with
 | zero=>exact av (be t (av (bi cw)))
 | succ m =>
  rw [decide_eq_false (Oz.o243)] at t
  have hm:m<kept.length:=by have:=hp.le; exact Oz.o244 this
  have e0:((m+1:Nat):Int) - 1=(m:Nat):=Oz.o245
  have it:dh (.ref k) (.int (((m+1:Nat):Int) - 1)) h=.ok (.int kept[m]) h:=by rw [e0]; exact bh L.list (by rw [Oz.g12,Oz.g10 hm]; rfl)
  have eb:bef kept (m+1)=some kept[m]:=by show kept[m]?=_; exact Oz.g10 hm
  rw [eb]
  exact af (ap t ah) (av (bi (bc (L.ea rfl rfl) (aq (aa rfl) ai fj) it)))
theorem J7 (g:LG G X) (hG:G.fns 16=some ⟨2,3,xk⟩) (L:Lad h i d k w H kept) (ok:Ok w H kept W) (v0:0≤v) (v1:v<w^H):ae G W (n+2) 16 [.ref i,.int v] h=.ok (oav (kept.filter fun x=>decide (v≤x)).head?) h:=by
 have nd:ae G W (n+1) 4 [.ref i,.int v,.int (w^H - 1)] h=.ok .none h:=nl g.need v0 (Oz.o178 v1)
 obtain⟨p,hp,ls⟩:=jn (W:=W) (n:=n) (v:=v) g.lesser L ok.srt (by have:=ok.few; exact Oz.o240 this)
 have e1:(kept.filter fun x=>decide (v≤x)).head?=kept[p]? := by
  have e:(fun x:Int=>decide (v≤x))=fun x=>decide (v - 1<x):=funext fun x=>by
   by_cases q:v≤x
   ·rw [decide_eq_true q,decide_eq_true (Oz.o246 q)]
   ·rw [decide_eq_false q,decide_eq_false (Oz.o247 q)]
  rw [e,Gf (N:=v - 1) (p:=p) (m:=p) (fun j y hj hy=>by have:=hp.lo j y hj hy; exact Oz.o178 this) (fun j y hj hy=>by have:=hp.hi j y hj hy; exact Oz.o246 this),F8]
 rw [e1]
 refine bj hG rfl (af (ca (L.em rfl g.m1 (ag (aa rfl) (ag (aq (L.ea rfl rfl) ai fj) aj)) nd)) (af (am (L.em rfl g.m2 (es1 rfl) ls)) ?_))
 have lk:fw .len [.ref k] h=.ok (.int (kept.length:Int)) h:=by
  have:=kf L.list
  rwa [Oz.g13] at this
 have t:ev G (ae G W (n+1)) (.cmp .eq (.loc 2) (.bf .len (.cons (.attr (.loc 0) 4) .nil))) [some (.ref i),some (.int v),some (.int (p:Nat))] h=.ok (.bool (decide ((p:Int)=(kept.length:Int)))) h:=az (aa rfl) (b7 (L.ea rfl rfl) lk) oj
 by_cases c:p=kept.length
 ·rw [decide_eq_true (Oz.o248 c)] at t
  rw [List.getElem?_eq_none (Oz.o249 c)]
  exact av (be t (av (bi cw)))
 ·rw [decide_eq_false (Oz.o250 c)] at t
  have hm:p<kept.length:=by have:=hp.le; exact Oz.o251 c this
  rw [Oz.g10 hm]
  exact af (ap t ah) (av (bi (bc (L.ea rfl rfl) (aa rfl) (bh L.list (by rw [Oz.g12,Oz.g10 hm]; rfl)))))
end
theorem Wlk.det {w n:Int}{kept:List Int}{p:Nat×Int}{a b:List (Nat×Int)}(x:Wlk w n kept p a) (y:Wlk w n kept p b):a=b:=by
 induction x generalizing b with
 | stop h=>cases y with
  | stop _=>rfl
  | go h' _=>rw [h] at h'; cases h'
 | go h _ ih=>cases y with
  | stop h'=>rw [h] at h'; cases h'
  | go h' t=>rw [h] at h'; cases h'; rw [ih t]
end Sk
namespace Sk
end Sk
namespace Sk
noncomputable def ue (m:Nat):CS:=(.seq (.asg 4 (.call m (.cons (.bin .fdiv (.loc 2) (.int 3)) (.cons (.loc 3) .nil)))) (.seq (.ite (.and (.cmp .eq (.bin .mod (.loc 2) (.int 3)) (.int 1)) (.cmp .gt (.bf .len (.cons (.loc 1) .nil)) (.int 0)))
  (.seq (.asg 4 (.item (.bf .list (.cons (.loc 1) .nil)) (.bin .mod (.bin .fdiv (.loc 2) (.int 3)) (.bf .len (.cons (.loc 1) .nil))))) .skip) .skip)
 (.seq (.ite (.isin false (.loc 4) (.loc 1)) (.seq (.ex (.bm .dpop (.loc 1) (.cons (.loc 4) .nil))) (.seq (.ex (.meth (.loc 0) 7 (.cons (.loc 4) .nil))) .skip)) (.seq (.setItem (.loc 1) (.loc 4) (.bool true)) (.seq (.ex (.meth (.loc 0) 6 (.cons (.loc 4) .nil))) .skip))) .skip)))
section
variable {G:Gl}{W n:Nat}{h:HP}{i d k:Nat}{w:Int}{H:Nat}{kept:List Int}{X Y Z:CS}
theorem J5 {r f m:Nat}{rk:List Int}{c:Int}(g:LG G X) (hp9:G.fns 9=some ⟨2,7,zj Y⟩) (hp10:G.fns 10=some ⟨2,7,wa Z⟩) (m6:G.meth 0 6=some 9) (m7:G.meth 0 7=some 10) (h28:G.fns m=some ⟨2,2,ny⟩) (hG:G.fns f=some ⟨4,5,ue m⟩)
  (L:Lad h i d k w H kept) (ok:Ok w H kept W) (room:kept.length+15<W) (hr:h[r]?=some (.dict rk)) (pm:rk.Perm kept):Oz.E3 fun kept' rk' h'=>ae G W (n+4) f [.ref i,.ref r,.int c,.int (w^H)] h=.ok .none h' ∧
   Lad h' i d k w H kept'∧kept'.Pairwise (·<·)∧(∀ y∈kept',0≤y∧y<w^H)∧kept'.length≤kept.length+1∧h'[r]?=some (.dict rk')∧rk'.Perm kept'∧Ext [d,k,r] h h' := by
 have bd:=pk ok.w2 ok.w9 ok.h12
 refine Oz.z fun ζ η=>?_
 obtain⟨v,v1,v2,nu⟩:=Ae (G:=G) (W:=W) (f:=m) (c:=c.fdiv 3) (m:=w^H) h28 bd.1 bd.2
 have d3:gi 3=true:=by decide
 have rl:rk.length=kept.length:=pm.length_eq
 have ri:r≠i:=fun e=>by rw [e,L.inst] at hr; cases hr
 have rd:r≠d:=fun e=>by rw [e,L.flds] at hr; cases hr
 have rk' : r≠k:=fun e=>by rw [e,L.list] at hr; cases hr
 obtain⟨N,h1,n0,n1,x1,pre⟩:Oz.E2 fun N h1=>0≤N∧N<w^H∧Ext [] h h1∧∀ q rr,exec G (ae G W (n+3)) W q [some (.ref i),some (.ref r),some (.int c),some (.int (w^H)),some (.int N)] h1=rr →
   exec G (ae G W (n+3)) W (.seq (.ite (.and (.cmp .eq (.bin .mod (.loc 2) (.int 3)) (.int 1)) (.cmp .gt (.bf .len (.cons (.loc 1) .nil)) (.int 0))) (.seq (.asg 4 (.item (.bf .list (.cons (.loc 1) .nil)) (.bin .mod (.bin .fdiv (.loc 2) (.int 3)) (.bf .len (.cons (.loc 1) .nil))))) .skip) .skip) q) [some (.ref i),some (.ref r),some (.int c),some (.int (w^H)),some (.int v)] h=rr:=by
  have t1:ev G (ae G W (n+3)) (.cmp .eq (.bin .mod (.loc 2) (.int 3)) (.int 1)) [some (.ref i),some (.ref r),some (.int c),some (.int (w^H)),some (.int v)] h=.ok (.bool (decide (c.fmod 3=1))) h:=az (aq (aa rfl) ai (fy d3)) ai oj
  have t2:ev G (ae G W (n+3)) (.cmp .gt (.bf .len (.cons (.loc 1) .nil)) (.int 0)) [some (.ref i),some (.ref r),some (.int c),some (.int (w^H)),some (.int v)] h=.ok (.bool (decide (0<(rk.length:Int)))) h:=az (b7 (aa rfl) (C0 hr)) ai vg
  by_cases c1:c.fmod 3=1
  ·rw [decide_eq_true c1] at t1
   by_cases c2:0<rk.length
   ·rw [decide_eq_true (Oz.o480 c2)] at t2
    have fq:=fm (c.fdiv 3) rk.length (Oz.o480 c2)
    obtain⟨j,hj⟩:∃ j:Nat,(j:Int)=(c.fdiv 3).fmod rk.length:=⟨((c.fdiv 3).fmod rk.length).toNat,Oz.o346 fq.1⟩
    obtain⟨N,hN⟩:∃ N,rk[j]?=some N:=⟨_,Oz.g10 (Oz.o347 fq.2 hj)⟩
    have hm:=ok.rng N (pm.mem_iff.mp (Oz.g16 hN))
    have hr1:(h++[AO.list (rk.map .int)])[r]?=some (.dict rk):=Ext.app.get (S:=[]) hr Oz.g0
    have dv:gi (rk.length:Int)=true:=je (Oz.o481 c2) (by have:=ok.top; exact Oz.o482 rl this)
    have it:dh (.ref h.length) (.int ((c.fdiv 3).fmod rk.length)) (h++[AO.list (rk.map .int)])=.ok (.int N) (h++[AO.list (rk.map .int)]):=by rw [← hj]; exact bh ak (by rw [Oz.g12,hN]; rfl)
    exact⟨N,_,hm.1,hm.2,Ext.app,fun q rr hq=>af (be (b5 t1 t2) (af (am (bc (b7 (aa rfl) (Iq hr)) (aq (aq (aa rfl) ai (et d3)) (b7 (aa rfl) (C0 hr1)) (fy dv)) it)) ah)) hq⟩
   ·rw [decide_eq_false (Oz.o483 c2)] at t2
    exact⟨v,h,v1,v2,Ext.refl,fun q rr hq=>af (ap (b5 t1 t2) ah) hq⟩
  ·rw [decide_eq_false c1] at t1
   exact⟨v,h,v1,v2,Ext.refl,fun q rr hq=>af (ap (ij t1) ah) hq⟩
 refine η ?_
 have hr1:=x1.get hr Oz.g0
 have L1:Lad h1 i d k w H kept:=L.ext x1 Oz.g0 Oz.g0 Oz.g0
 have ti:ev G (ae G W (n+3)) (.isin false (.loc 4) (.loc 1)) [some (.ref i),some (.ref r),some (.int c),some (.int (w^H)),some (.int N)] h1=.ok (.bool (decide (N∈rk))) h1:=by
  have:=Ko (t:=false) (n:=N) hr1
  rw [Bool.false_xor] at this
  exact ii (aa rfl) (aa rfl) this
 have start:∀ rr,exec G (ae G W (n+3)) W (.seq (.ite (.isin false (.loc 4) (.loc 1)) (.seq (.ex (.bm .dpop (.loc 1) (.cons (.loc 4) .nil))) (.seq (.ex (.meth (.loc 0) 7 (.cons (.loc 4) .nil))) .skip)) (.seq (.setItem (.loc 1) (.loc 4) (.bool true)) (.seq (.ex (.meth (.loc 0) 6 (.cons (.loc 4) .nil))) .skip))) .skip) [some (.ref i),some (.ref r),some (.int c),some (.int (w^H)),some (.int N)] h1=rr →
   exec G (ae G W (n+3)) W (ue m) [some (.ref i),some (.ref r),some (.int c),some (.int (w^H)),Option.none] h=rr:=fun rr hq=>af (am (ax (ag (aq (aa rfl) ai (et d3)) (es1 rfl)) (nu _ _))) (pre _ _ hq)
 have nd:kept.Nodup:=ok.srt.imp fun h=>Int.ne_of_lt h
 by_cases hm:N∈rk
 ·rw [decide_eq_true hm] at ti
  refine Oz.z fun ζ1 η1=>?_
  obtain⟨p,hp⟩:=List.getElem?_of_mem (pm.mem_iff.mp hm)
  have x2:Ext [r] h1 (h1.set r (.dict (rk.filter fun x=>decide (x≠N)))):=Ext.set (by simp)
  have L2:=L1.ext x2 (by simpa using ri.symm) (by simpa using rd.symm) (by simpa using rk'.symm)
  obtain⟨T,T2,T3,h',t1,t2,e,L3,x3,td⟩:=E1 (n:=n) g hp10 L2 ok hp
  have hr2:(h1.set r (.dict (rk.filter fun x=>decide (x≠N))))[r]?=some (.dict (rk.filter fun x=>decide (x≠N))):=qo hr1
  obtain⟨s1,s2⟩:=C7 hp
  refine η1 ?_
  refine⟨_,_,h',s9 hG rfl (start _ (af (be ti (af (ca (Nj (aa rfl) hr1 (aa rfl) hm)) (af (ca (L2.em rfl m7 (es1 rfl) e)) ah))) ah)),L3,?_,fun y hy=>ok.rng y (List.mem_of_mem_eraseIdx hy),?_,x3.get hr2 (by simp [rd,rk']),?_,((x1.mono (by simp)).trans (x2.mono (by simp))).trans (x3.mono (by simp))⟩
  ·exact ok.srt.sublist (List.eraseIdx_sublist ..)
  ·have:=(List.eraseIdx_sublist kept p).length_le; exact Oz.o439 this
  ·have h5:=xr (x:=N) pm
   have f1:kept.filter (fun y=>decide (y≠N))=kept.eraseIdx p:=by
    rw [s2]
    have nd' : (kept.take p++N::kept.drop (p+1)).Nodup:=by rw [← s1]; exact nd
    obtain⟨n1,n2,n3⟩:=Oz.g17.mp nd'
    conv=>lhs; rw [s1]
    rw [List.filter_append,sm fun hm=>n3 N hm N (.head _) rfl,List.filter_cons,if_neg (by simp),sm (Oz.g20.mp n2).1]
   rwa [f1] at h5
 ·rw [decide_eq_false hm] at ti
  have hk:N∉kept:=fun q=>hm (pm.mem_iff.mpr q)
  have x2:Ext [r] h1 (h1.set r (.dict (rk++[N]))):=Ext.set (by simp)
  have L2:=L1.ext x2 (by simpa using ri.symm) (by simpa using rd.symm) (by simpa using rk'.symm)
  refine Oz.z fun ζ2 η2=>?_
  obtain⟨p,T,T2,T3,h',hp,t1,t2,e,L3,x3,td⟩:=Iy (n:=n) g hp9 L2 ok n0 n1 hk
  refine η2 ?_
  have hr2:(h1.set r (.dict (rk++[N])))[r]?=some (.dict (rk++[N])):=qo hr1
  have s1:=List.take_append_drop p kept
  refine⟨_,_,h',s9 hG rfl (start _ (af (ap ti (af (Gu (aa rfl) (aa rfl) hr1 hm (decide_eq_true (by have:=ok.top; exact Oz.o484 rl this))) (af (ca (L2.em rfl m6 (es1 rfl) e)) ah))) ah)),L3,Ce ok.srt hp hk,fun y hy=>?_,?_,x3.get hr2 (by simp [rd,rk']),?_,((x1.mono (by simp)).trans (x2.mono (by simp))).trans (x3.mono (by simp))⟩
  ·rcases Oz.g1.mp hy with q | q
   ·exact ok.rng y (List.mem_of_mem_take q)
   ·rcases Oz.g6.mp q with rfl | q
    ·exact⟨n0,n1⟩
    ·exact ok.rng y (List.mem_of_mem_drop q)
  ·have:=congrArg List.length s1
   simp at this ⊢
   exact Oz.o485
  ·have h5:(rk++[N]).Perm (N::kept):=(List.perm_append_singleton N rk).trans (pm.cons N)
   refine h5.trans ?_
   conv=>lhs; rw [← s1]
   exact List.perm_middle.symm
end
end Sk
namespace Sk
noncomputable def Do:CS:=(.seq (.ret (.bf .list (.cons (.attr (.loc 0) 4) .nil))) .skip)
noncomputable def xh:CS:=(.seq (.ex (.meth (.loc 0) 1 (.cons (.loc 1) (.cons (.attr (.loc 0) 2) .nil)))) (.seq (.ret (.meth (.loc 0) 2 (.cons (.loc 1) .nil))) .skip))
section
variable {G:Gl}{W n:Nat}{h:HP}{i d k r:Nat}{w v:Int}{H:Nat}{kept:List Int}{X Y Z:CS}{m3 m4 m5:PySem.Str}{cl:CallO}{l:LOC}
theorem N0 (hG:G.fns 11=some ⟨1,1,Do⟩) (L:Lad h i d k w H kept):ae G W (n+1) 11 [.ref i] h=.ok (.ref h.length) (h++[.list (kept.map .int)]) :=
 bj hG rfl (av (bi (b7 (L.ea rfl rfl) (jq L.list))))
theorem J3 (g:LG G X) (hG:G.fns 17=some ⟨2,2,xh⟩) (L:Lad h i d k w H kept) (ok:Ok w H kept W) (v0:0≤v) (v1:v<w^H):ae G W (n+2) 17 [.ref i,.int v] h=.ok (.int ((kept.filter fun x=>decide (x<v)).length:Nat)) h:=by
 have nd:ae G W (n+1) 4 [.ref i,.int v,.int (w^H)] h=.ok .none h:=nl g.need v0 (Oz.o50 v1)
 obtain⟨p,hp,ls⟩:=jn (W:=W) (n:=n) (v:=v) g.lesser L ok.srt (by have:=ok.few; exact Oz.o240 this)
 have e:(kept.filter fun x=>decide (x<v)).length=p:=by rw [yw hp,List.length_take]; have:=hp.le; exact Oz.o350 this
 rw [e]
 exact bj hG rfl (af (ca (L.em rfl g.m1 (ag (aa rfl) (ag (L.ea rfl rfl) aj)) nd)) (av (bi (L.em rfl g.m2 (es1 rfl) ls))))
end
end Sk
namespace Sk
noncomputable def xj (X:CS):CS:=(.seq (.ite (.not (.chain (.int 0) .le (.loc 1) .lt (.bf .len (.cons (.attr (.loc 0) 4) .nil)))) (.seq X .skip) .skip) (.seq (.ret (.item (.attr (.loc 0) 4) (.loc 1))) .skip))
noncomputable def C2:CS:=(.seq (.asg 6 (.meth (.loc 0) 10 (.cons (.loc 4) (.cons (.loc 2) .nil))))
  (.seq (.ite (.and (.isC true (.item (.loc 6) (.int 0)) Option.none) (.cmp .le (.item (.loc 6) (.int 1)) (.loc 3)))
   (.seq (.asg 2 (.item (.loc 6) (.int 0))) (.seq (.asg 3 (.bin .sub (.loc 3) (.item (.loc 6) (.int 1)))) .skip))
   (.seq (.ite (.cmp .gt (.loc 4) (.int 0)) (.seq (.asg 4 (.bin .sub (.loc 4) (.int 1))) .skip) (.seq (.ret (.loc 5)) .skip)) .skip))
  (.seq (.ex (.bm .append (.loc 5) (.cons (.tup (.cons (.loc 4) (.cons (.loc 2) .nil))) .nil))) .skip)))
noncomputable def zi:CS:=(.seq (.ex (.meth (.loc 0) 15 (.cons (.loc 1) .nil))) (.seq (.asg 2 (.item (.attr (.loc 0) 4) (.int 0))) (.seq (.asg 3 (.loc 1)) (.seq (.asg 4 (.attr (.loc 0) 1)) (.seq (.asg 5 (.list (.cons (.tup (.cons (.loc 4) (.cons (.loc 2) .nil))) .nil))) (.seq (.whil (.bool true) C2) .skip))))))
noncomputable def ou:CS:=(.seq (.ex (.meth (.loc 0) 1 (.cons (.loc 1) (.cons (.attr (.loc 0) 2) .nil)))) (.seq (.ex (.meth (.loc 0) 1 (.cons (.loc 2) (.cons (.attr (.loc 0) 2) .nil)))) (.seq (.ret (.comp (.loc 3) .val (.cons (.attr (.loc 0) 4) .nil) (.chain (.loc 1) .le (.loc 3) .lt (.loc 2)))) .skip)))
noncomputable def r9:CS:=(.seq (.ret (.bf .len (.cons (.meth (.loc 0) 17 (.cons (.loc 1) (.cons (.loc 2) .nil))) .nil))) .skip)
noncomputable def Ax (X Y:CS):CS:=(.seq (.ite (.or (.cmp .ne (.attr (.loc 0) 0) (.attr (.loc 1) 0)) (.cmp .ne (.attr (.loc 0) 1) (.attr (.loc 1) 1))) (.seq X .skip) .skip)
 (.seq (.asg 2 (.meth (.loc 1) 8 .nil))
 (.seq (.for1 3 .val (.cons (.loc 2) .nil) (.seq (.ite (.meth (.loc 0) 5 (.cons (.loc 3) .nil)) (.seq Y .skip) .skip) .skip))
 (.seq (.for1 3 .val (.cons (.loc 2) .nil) (.seq (.ex (.meth (.loc 0) 6 (.cons (.loc 3) .nil))) .skip)) .skip))))
section
variable {G:Gl}{W n:Nat}{h:HP}{i d k:Nat}{w v:Int}{H:Nat}{kept:List Int}{X Y Z:CS}{m2 m3 m6 m7:PySem.Str}{cl:CallO}{l:LOC}
theorem sq {a b c:CE}{i j k:Int}{h1 h2:HP}(ha:ev G cl a l h=.ok (.int i) h1) (hb:ev G cl b l h1=.ok (.int j) h2) (hc:ev G cl c l h2=.ok (.int k) h2):ev G cl (.chain a .le b .lt c) l h=.ok (.bool (decide (i≤j)&&decide (j<k))) h2:=by
 show(ev G cl a l h).bind _=_
 rw [ha]
 show(ev G cl b l h1).bind _=_
 rw [hb]
 show(cj COp.le (AV.int i) (AV.int j) h2).bind (fun r h₃=>match truthy r with
  | some true=>(ev G cl c l h₃).bind fun z h₄=>cj .lt (.int j) z h₄
  | some false=>R.ok r h₃
  | Option.none=>.err)=_
 rw [vf]
 by_cases q:i≤j
 ·rw [decide_eq_true q,Bool.true_and]
  show(ev G cl c l h2).bind _=_
  rw [hc]
  exact mr
 ·rw [decide_eq_false q]; rfl
theorem I0 (hG:G.fns 18=some ⟨2,2,xj (.raise 7 m7)⟩) (L:Lad h i d k w H kept) (hv:v<0∨(kept.length:Int)≤v):ae G W (n+1) 18 [.ref i,.int v] h=.exc 7 h:=by
 refine qe hG rfl (de (be (h1:=h) ?_ (de o8)))
 have lk:fw .len [.ref k] h=.ok (.int (kept.length:Int)) h:=by
  have:=kf L.list
  rwa [Oz.g13] at this
 have e:=sq (G:=G) (cl:=ae G W n) (l:=[some (.ref i),some (.int v)]) (h:=h) (h1:=h) (h2:=h) (i:=0) (j:=v) (k:=(kept.length:Int)) (a:=.int 0) (b:=.loc 1) (c:=.bf .len (.cons (.attr (.loc 0) 4) .nil)) ai (aa rfl) (b7 (L.ea rfl rfl) lk)
 have:(decide (0≤v)&&decide (v<(kept.length:Int)))=false:=by
  rcases hv with q | q
  ·rw [decide_eq_false (Oz.o497 q)]; rfl
  ·rw [show decide (v<(kept.length:Int))=false from decide_eq_false (Oz.o536 q),Bool.and_false]
 rw [this] at e
 exact dw e
theorem Lw (hG:G.fns 19=some ⟨2,7,zi⟩) (g18:G.fns 18=some ⟨2,2,xj (.raise 7 m7)⟩) (m15:G.meth 0 15=some 18) (L:Lad h i d k w H kept) (hv:v<0∨(kept.length:Int)≤v):ae G W (n+2) 19 [.ref i,.int v] h=.exc 7 h :=
 qe hG rfl (de (om (L.em rfl m15 (es1 rfl) (I0 (n:=n) g18 L hv))))
theorem rq {lo hi:Int}(g:LG G X) (hG:G.fns 20=some ⟨3,3,ou⟩) (L:Lad h i d k w H kept) (ok:kept.length≤99999) (l0:0≤lo∧lo≤w^H) (l1:0≤hi∧hi≤w^H) :
  ae G W (n+2) 20 [.ref i,.int lo,.int hi] h=.ok (.ref h.length) (h++[.list ((kept.filter fun x=>decide (lo≤x)&&decide (x<hi)).map .int)]):=by
 have n1:ae G W (n+1) 4 [.ref i,.int lo,.int (w^H)] h=.ok .none h:=nl g.need l0.1 l0.2
 have n2:ae G W (n+1) 4 [.ref i,.int hi,.int (w^H)] h=.ok .none h:=nl g.need l1.1 l1.2
 have cm:=sx (h:=h) (g:=some (k,.list (kept.map .int))) (cond:=fun u h'=>ev G (ae G W (n+1)) (.chain (.loc 1) .le (.loc 3) .lt (.loc 2)) ([some (.ref i),some (.int lo),some (.int hi)]++[some u]) h') (elt:=fun u h'=>ev G (ae G W (n+1)) (.loc 3) ([some (.ref i),some (.int lo),some (.int hi)]++[some u]) h') (e:=AV.int) (f:=AV.int) (p:=fun x=>decide (lo≤x)&&decide (x<hi)) (b4 L.list) kept
  (fun x ζ=>sq (aa rfl) (aa rfl) (aa rfl)) (fun x ζ ζ=>aa rfl)
 exact bj hG rfl (af (ca (L.em rfl g.m1 (ag (aa rfl) (ag (L.ea rfl rfl) aj)) n1)) (af (ca (L.em rfl g.m1 (ag (aa rfl) (ag (L.ea rfl rfl) aj)) n2))
  (av (bi (Gi (ag (L.ea rfl rfl) aj) (bw L.list) (decide_eq_true (by rw [Oz.g13]; exact Oz.o253 ok)) cm)))))
theorem E9 {lo hi:Int}(g:LG G X) (hG:G.fns 20=some ⟨3,3,ou⟩) (g21:G.fns 21=some ⟨3,3,r9⟩) (m17:G.meth 0 17=some 20) (L:Lad h i d k w H kept) (ok:kept.length≤99999) (l0:0≤lo∧lo≤w^H) (l1:0≤hi∧hi≤w^H) :
  ae G W (n+3) 21 [.ref i,.int lo,.int hi] h=.ok (.int ((kept.filter fun x=>decide (lo≤x)&&decide (x<hi)).length:Nat)) (h++[.list ((kept.filter fun x=>decide (lo≤x)&&decide (x<hi)).map .int)]):=by
 refine bj g21 rfl (av (bi (b7 (L.em rfl m17 (es2 rfl rfl) (rq (n:=n) g hG L ok l0 l1)) ?_)))
 have:=kf (h:=h++[.list ((kept.filter fun x=>decide (lo≤x)&&decide (x<hi)).map .int)]) (i:=h.length) ak
 rwa [Oz.g13] at this
theorem Kv {elt cond:CE}{ik:IK}{es:CEs}{vs items xs:List AV}{g:Grd}{h1 h2:HP}(he:evs G cl es l h=.ok vs h1) (hi:bp ik vs h1=some (items,g)) (hs:cb items.length=true)
  (hc:da g (fun v h'=>ev G cl cond (l++[some v]) h') (fun v h'=>ev G cl elt (l++[some v]) h') items h1=.ok xs h2):ev G cl (.comp elt ik es cond) l h=.ok (.ref h2.length) (h2++[.list xs]):=by
 show(evs G cl es l h).bind _=_
 rw [he]
 show(match bp ik vs h1 with
  | some (items,g)=>if cb items.length then (da g (fun v h'=>ev G cl cond (l++[some v]) h') (fun v h'=>ev G cl elt (l++[some v]) h') items h1).bind fun xs h₂=>R.ok (AV.ref h₂.length) (h₂++[AO.list xs]) else .err
  | Option.none=>.err)=_
 rw [hi]
 dsimp only
 rw [if_pos hs,hc]; rfl
end
end Sk
namespace Sk
theorem Pl.same {kept:List Int}{n:Int}{p p' : Nat}(a:Pl kept n p) (b:Pl kept n p'):p=p' := by
 have key:∀ {p p' : Nat},Pl kept n p→Pl kept n p'→¬ p<p' := fun a b q=>by
  have e:=Oz.g10 (Oz.g27 q b.le)
  have h1:=b.lo _ _ q e
  have h2:=a.hi _ _ (Oz.g3 _) e
  exact Oz.o379 h1 h2
 have:=key a b
 have:=key b a
 exact Oz.o380 ‹_› this
noncomputable def wst (i q:Nat) (v left:Int) (p:Nat×Int) (z:Option AV):LOC:=[some (.ref i),some (.int v),some (.int p.2),some (.int left),some (.int (p.1:Nat)),some (.ref q),z]
noncomputable def C1:CS:=(.ite (.and (.isC true (.item (.loc 6) (.int 0)) Option.none) (.cmp .le (.item (.loc 6) (.int 1)) (.loc 3)))
   (.seq (.asg 2 (.item (.loc 6) (.int 0))) (.seq (.asg 3 (.bin .sub (.loc 3) (.item (.loc 6) (.int 1)))) .skip))
   (.seq (.ite (.cmp .gt (.loc 4) (.int 0)) (.seq (.asg 4 (.bin .sub (.loc 4) (.int 1))) .skip) (.seq (.ret (.loc 5)) .skip)) .skip))
section
variable {G:Gl}{W n:Nat}{h:HP}{i d k v:Nat}{w N left:Int}{H:Nat}{kept:List Int}{X Y Z:CS}{cl:CallO}
theorem I6 {l:LOC}{t a b:Nat}{o:Option Int}{g:Int}(ht:h[t]?=some (.tup [oav o,.int g])) (la:l[a]?=some (some (.ref t))) (lb:l[b]?=some (some (.int left))) :
  ev G cl (.and (.isC true (.item (.loc a) (.int 0)) Option.none) (.cmp .le (.item (.loc a) (.int 1)) (.loc b))) l h=.ok (.bool (o.isSome&&decide (g≤left))) h:=by
 have i0:ev G cl (.item (.loc a) (.int 0)) l h=.ok (oav o) h:=bc (aa la) ai (pg (k:=0) ht rfl)
 cases o with
 | none=>exact ij (jo i0)
 | some y=>exact b5 (qb i0) (az (bc (aa la) ai (pg (k:=1) ht rfl)) (aa lb) vf)
set_option tactic.hygienic true in
theorem Jh {q:Nat}{p:Nat×Int}{z:Option AV}(g:LT G X Y Z) (ok:Ok w H kept W) (L:Lad h i d k w H kept) (hN:kept[v]?=some N) (y:Wy w N H kept p) (hl:∀ j:Nat,Pl kept p.2 j→left=(v:Int) - j) :
  Oz.E2 fun h1 z'=>Ext [] h h1∧exec G (ae G W (n+4)) W (.asg 6 (.meth (.loc 0) 10 (.cons (.loc 4) (.cons (.loc 2) .nil)))) (wst i q v left p z) h=.next (wst i q v left p (some z')) h1 ∧
   (∀ y,nx (w^p.1) kept p.2=some y→y≤N→∃ left',(∀ j:Nat,Pl kept y j→left'=(v:Int) - j)∧exec G (ae G W (n+4)) W C1 (wst i q v left p (some z')) h1=.next (wst i q v left' (p.1,y) (some z')) h1) ∧
   ((∀ y,nx (w^p.1) kept p.2=some y→¬ y≤N)→(p.1=0→exec G (ae G W (n+4)) W C1 (wst i q v left p (some z')) h1=.ret (.ref q) h1)∧∀ m,p.1=m+1→exec G (ae G W (n+4)) W C1 (wst i q v left p (some z')) h1=.next (wst i q v left (m,p.2) (some z')) h1):=by
 have P0:0<w^p.1:=Int.pow_pos (by have:=ok.w2; exact Oz.o168 this)
 have th:=u7 P0 ok.srt y.here
 refine Oz.z fun ζ η=>?_
 obtain⟨h1,t,p',gg,ea,_,ht,x1,hp,hs,_⟩:=wu (n:=n) (lv:=p.1) (N:=p.2) g.power g.thinned g.lesser g.level g.m2 g.m9 g.ahead L ok y.le th
 refine η ?_
 rw [rf P0 ok.srt th] at ht hs
 have hl:=hl p' hp
 refine⟨h1,.ref t,x1,am (L.em rfl g.m10 (es2 rfl rfl) ea),fun y hy hyN=>?_,fun no=>?_⟩
 ·obtain⟨p2,hp2,rfl⟩:=hs y hy
  have le:p2≤v:=by
   rcases Nat.lt_or_ge v p2 with q | q
   ·have:=hp2.lo v N q hN; exact Oz.o381 hyN this
   ·exact q
  rw [hy] at ht
  have tt:=I6 (a:=6) (b:=3) (G:=G) (cl:=ae G W (n+4)) (l:=wst i q v left p (some (.ref t))) (left:=left) ht rfl rfl
  rw [decide_eq_true (Oz.o382 hl le)] at tt
  exact⟨left - ((p2:Int) - p'),fun j hj=>(by have:=hp2.same hj; exact Oz.o383 hl this),be tt (af (am (bc (aa rfl) ai (pg (k:=0) ht rfl))) (af (am (aq (aa rfl) (bc (aa rfl) ai (pg (k:=1) ht rfl)) fj)) ah))⟩
 ·have tt:ev G (ae G W (n+4)) (.and (.isC true (.item (.loc 6) (.int 0)) Option.none) (.cmp .le (.item (.loc 6) (.int 1)) (.loc 3))) (wst i q v left p (some (.ref t))) h1=.ok (.bool false) h1:=by
   rw [I6 (a:=6) (b:=3) (left:=left) ht rfl rfl]
   cases e:nx (w^p.1) kept p.2 with
   | none=>rfl
   | some u =>
    obtain⟨p2,hp2,hg⟩:=hs u e
    have nu:=no u e
    have:¬ gg≤left:=fun c=>by
     have:=hp2.hi v N (Oz.o384 hl hg c) hN
     exact Oz.o385 nu this
    rw [decide_eq_false this]; rfl
  have t2:ev G (ae G W (n+4)) (.cmp .gt (.loc 4) (.int 0)) (wst i q v left p (some (.ref t))) h1=.ok (.bool (decide (0<(p.1:Int)))) h1:=az (aa rfl) ai vg
  refine⟨fun h0=>?_,fun m hm=>?_⟩
  ·rw [decide_eq_false (Oz.o169 h0)] at t2
   exact ap tt (av (ap t2 (av (bi (aa rfl)))))
  ·rw [decide_eq_true (Oz.o171 hm)] at t2
   have s3:exec G (ae G W (n+4)) W (.asg 4 (.bin .sub (.loc 4) (.int 1))) (wst i q v left p (some (.ref t))) h1=.next (wst i q v left (m,p.2) (some (.ref t))) h1:=by
    have e1:((p.1:Nat):Int) - 1=(m:Nat):=Oz.o172 hm
    show _=RS.next ((wst i q v left p (some (.ref t))).set 4 (some (.int (m:Nat)))) h1
    rw [← e1]
    exact am (aq (aa rfl) ai fj)
   exact ap tt (af (be t2 (af s3 ah)) ah)
set_option tactic.hygienic true in
theorem Gv {q:Nat}{p:Nat×Int}{z:Option AV}{ts:List Nat}(g:LT G X Y Z) (ok:Ok w H kept W) (L:Lad h i d k w H kept) (hN:kept[v]?=some N) (y:Wy w N H kept p) (hl:∀ j:Nat,Pl kept p.2 j→left=(v:Int) - j) (hq:h[q]?=some (.list (ts.map .ref))) (hz:ts.length≤99998) :
  ∃ h1,Ext [] h h1∧(stp w N kept p=Option.none→exec G (ae G W (n+4)) W C2 (wst i q v left p z) h=.ret (.ref q) h1)∧∀ p2,stp w N kept p=some p2→∃ l2,(Oz.E2 fun left z=>(∀ j:Nat,Pl kept p2.2 j→left=(v:Int) - j)∧l2=wst i q v left p2 z)∧exec G (ae G W (n+4)) W C2 (wst i q v left p z) h=.next l2 (qq h1 q ts p2):=by
 refine Oz.z fun ζ η=>?_
 obtain⟨h1,z',x1,s1,go,no⟩:=Jh (n:=n) (q:=q) (z:=z) g ok L hN y hl
 refine η ?_
 refine⟨h1,x1,fun hs=>?_,fun p2 hs=>?_⟩
 ·obtain⟨h0,hn⟩:=zs ok.w2 ok.srt y hs
  exact af s1 (av ((no hn).1 h0))
 ·obtain⟨left',hl',s2⟩:∃ left',(∀ j:Nat,Pl kept p2.2 j→left'=(v:Int) - j)∧exec G (ae G W (n+4)) W C1 (wst i q v left p (some z')) h1=.next (wst i q v left' p2 (some z')) h1:=by
   obtain⟨a,b⟩:=p2
   rcases(ki ok.w2 ok.srt y hs).2 with ⟨a1,a2,a3,_⟩ | ⟨a1,a2,a3⟩
   ·cases a1
    exact go _ a2 a3
   ·cases a2
    exact⟨left,hl,(no a3).2 _ a1⟩
  exact⟨_,⟨left',_,hl',rfl⟩,af s1 (af s2 (af (zp rfl rfl rfl (x1.get hq Oz.g0) hz) ah))⟩
theorem Af (hG:G.fns 18=some ⟨2,2,xj X⟩) (L:Lad h i d k w H kept) (hN:kept[v]?=some N):ae G W (n+1) 18 [.ref i,.int (v:Nat)] h=.ok (.int N) h:=by
 have lt:=(Oz.g4.mp hN).1
 have lk:fw .len [.ref k] h=.ok (.int (kept.length:Int)) h:=by
  have:=kf L.list
  rwa [Oz.g13] at this
 have e:=sq (G:=G) (cl:=ae G W n) (l:=[some (.ref i),some (.int (v:Nat))]) (h:=h) (h1:=h) (h2:=h) (i:=0) (j:=v) (k:=(kept.length:Int)) (a:=.int 0) (b:=.loc 1) (c:=.bf .len (.cons (.attr (.loc 0) 4) .nil)) ai (aa rfl) (b7 (L.ea rfl rfl) lk)
 rw [decide_eq_true (Oz.o205),decide_eq_true (Oz.o256 lt)] at e
 exact bj hG rfl (af (ap (dw e) ah) (av (bi (bc (L.ea rfl rfl) (aa rfl) (bh L.list (by rw [Oz.g12,hN]; rfl))))))
theorem Nz {A:CS}(g:LT G X Y Z) (hG:G.fns 19=some ⟨2,7,zi⟩) (g18:G.fns 18=some ⟨2,2,xj A⟩) (m15:G.meth 0 15=some 18) (L:Lad h i d k w H kept) (ok:Ok w H kept W) (hW:120≤W) (hN:kept[v]?=some N):Oz.E5 fun h' q x ps ts=>ae G W (n+5) 19 [.ref i,.int (v:Nat)] h=.ok (.ref q) h'∧h.length≤q∧Ext [] h h' ∧
  kept.head?=some x∧x≤N∧Wy w N H kept (H,x)∧Wlk w N kept (H,x) ps∧(ps.length:Int)≤H*w+1∧PathAt h' q ts ps∧(∀ t∈ts,t≠q):=by
 have lt:=(Oz.g4.mp hN).1
 refine Oz.z fun ζ η=>?_
 obtain⟨x,hx⟩:∃ x,kept[0]?=some x:=⟨_,Oz.g10 (Oz.o388 lt)⟩
 have pl0:Pl kept x 0:=⟨Nat.zero_le _,fun j y hj=>absurd hj (Nat.not_lt_zero _),fun j y ζ hy=>by
  rcases Nat.eq_zero_or_pos j with rfl | hj
  ·rw [hx] at hy; cases hy; exact Int.le_refl _
  ·obtain⟨_,e1⟩:=Oz.g4.mp hx
   obtain⟨_,e2⟩:=Oz.g4.mp hy
   have:=Oz.g30.mp ok.srt 0 j (Oz.o389 ‹_›) (Oz.o390 ‹_›) hj
   rw [e1,e2] at this
   exact Oz.o50 this⟩
 have xN:x≤N:=pl0.hi v N (Nat.zero_le _) hN
 have hd:kept.head?=some x:=by rw [List.head?_eq_getElem?]; exact hx
 have it:dh (.ref k) (.int 0) h=.ok (.int x) h:=bh (k:=0) L.list (by rw [Oz.g12,hx]; rfl)
 obtain⟨h',ps,ts,e,x4,wy,wl,hl,pa,hne⟩:=Ai (G:=G) (cl:=ae G W (n+4)) (B:=C2) (v:=N) (St:=fun p l=>Oz.E2 fun left z=>(∀ j:Nat,Pl kept p.2 j→left=(v:Int) - j)∧l=wst i (h.length+1) v left p z) ok hW L hd xN ⟨_,Option.none,fun j hj=>(by have:=pl0.same hj; exact Oz.o391 this),rfl⟩ (fun {p l h' ts} sl y L' hq hz=>by
  refine Oz.z fun ζ1 η1=>?_
  obtain⟨left,z,hl,rfl⟩:=sl
  refine η1 ?_
  exact Gv (n:=n) g ok L' hN y hl hq hz)
 refine η ?_
 refine⟨h',h.length+1,x,ps,ts,bj hG rfl (af (ca (L.em rfl m15 (es1 rfl) (Af (n:=n+3) g18 L hN))) (af (am (bc (L.ea rfl rfl) ai it)) (af (am (aa rfl)) (af (am (L.ea rfl rfl))
  (af (am (b3 (ag (j7 (es2 rfl rfl) rfl) aj) rfl)) (av ?_)))))),Nat.le_succ _,x4,hd,xN,wy,wl,hl,pa,hne⟩
 rw [Oz.g26]
 exact e
end
end Sk
namespace Sk
end Sk
namespace Sk
end Sk
namespace Sk
section
variable {G:Gl}{W n:Nat}{h:HP}{i d k r:Nat}{w N:Int}{v:Nat}{H:Nat}{kept:List Int}{X Y Z A:CS}
theorem jg (srt:kept.Pairwise (·<·)) (hN:kept[v]?=some N):Pl kept N v:=by
 have pw:=Oz.g30.mp srt
 obtain⟨a,b⟩:=Oz.g4.mp hN
 refine⟨Nat.le_of_lt a,fun j y hj hy=>?_,fun j y hj hy=>?_⟩
 ·obtain⟨a1,b1⟩:=Oz.g4.mp hy
  have:=pw j v a1 a hj
  rw [b,b1] at this; exact this
 ·obtain⟨a1,b1⟩:=Oz.g4.mp hy
  rcases Nat.lt_or_eq_of_le hj with c | c
  ·have:=pw v j a a1 c
   rw [b,b1] at this; exact Oz.o50 this
  ·subst c; rw [b] at b1; exact Oz.o711 b1
end
end Sk
namespace Sk
noncomputable def zm (k c:Nat) (e:CE):CS:=(.tr (.seq (.ex e) .skip) (.cons c Option.none (.seq (.asg k (.bin .add (.loc k) (.int 1))) .skip) .nil))
end Sk
namespace Sk
end Sk
namespace Sk
theorem D0 (oa ob:Option Int) (st n:Nat):0<(PySem.sliceBounds oa ob (if st=0 then Option.none else some (st:Int)) n).2.2∧0≤(PySem.sliceBounds oa ob (if st=0 then Option.none else some (st:Int)) n).1∧(PySem.sliceBounds oa ob (if st=0 then Option.none else some (st:Int)) n).2.1≤n:=by
 have hp:(if st=0 then Option.none else some (st:Int)).getD 1>0:=by
  split
  ·exact Int.zero_lt_one
  ·show(st:Int)>0; exact Oz.o737 ‹_›
 unfold PySem.sliceBounds
 simp only [hp,if_true]
 refine⟨trivial,?_,?_⟩
 ·cases oa <;> simp <;> omega
 ·cases ob <;> simp <;> omega
theorem Fx (oa ob:Option Int) (st n:Nat):(bz oa ob st n).Pairwise (·<·)∧(bz oa ob st n).length≤n:=by
 obtain⟨h1,h2,h3⟩:=D0 oa ob st n
 unfold bz
 refine⟨?_,PySem.sliceRange_length_le _ _ _ _ (fun ζ=>⟨h2,h3⟩) (fun q=>absurd h1 q)⟩
 unfold PySem.sliceRange
 rw [List.pairwise_map]
 refine List.pairwise_lt_range.imp fun {a b} hab=>?_
 have:=Int.mul_lt_mul_of_pos_left (show(a:Int)<b by exact Oz.o256 hab) h1
 have:=Int.mul_nonneg (Int.le_of_lt h1) (show(0:Int)≤a by exact Oz.o205)
 exact Oz.o740 h2 ‹_› this
theorem Ext.fresh {S T:List Nat}{h h2 h' : HP}(x:Ext [] h h2) (y:Ext T h2 h') (hs:∀ t∈T,t∈S∨h.length≤t):Ext S h h' :=
 ⟨Oz.g2 x.len y.len,fun j hj hn=>(y.keep j (Oz.g27 hj x.len) fun q=>(hs j q).elim hn fun c=>Oz.o742 hj c).trans (x.keep j hj Oz.g0)⟩
section
variable {G:Gl}{W n:Nat}{h:HP}{i d k r gn m:Nat}{w N:Int}{H:Nat}{kept rk gk:List Int}{X Y Z:CS}{cl:CallO}{l:LOC}
theorem iq {a b c:CE}{x y z:AV}{st:Nat}{h1 h2 h3:HP}{r:R AV}(ha:ev G cl a l h=.ok x h1) (hb:ev G cl b l h1=.ok y h2) (hc:ev G cl c l h2=.ok z h3) (hs:io x y z st h3=r):ev G cl (.slice a b c st) l h=r:=by
 show(ev G cl a l h).bind _=r
 rw [ha]
 show(ev G cl b l h1).bind _=r
 rw [hb]
 show(ev G cl c l h2).bind _=r
 rw [hc]; exact hs
noncomputable def l13 (i r gn:Nat) (p:Int) (t5 t6 t7:Option AV):LOC:=[some (.ref 0),some (.ref i),some (.int p),some (.ref r),some (.ref gn),t5,t6,t7]
end
end Sk
set_option autoImplicit false
namespace Sk
namespace N14
noncomputable abbrev Vw:=HP→AV→Prop
noncomputable def Dt (k:Nat) (V:Vw):Prop := ∀ h v v',V h v→V h v'→∀ m,eqv (m+k) h v v'=some true
structure Kp (lo hi:Nat) (h h' : HP):Prop where
 zone:∀ a:Nat,lo≤a→a<hi→h'[a]?=h[a]?
 tup:∀ (a:Nat) (vs:List AV),h[a]?=some (AO.tup vs)→h'[a]?=some (AO.tup vs)
noncomputable def Sta (V:Vw) (v:AV) (lo hi:Nat) (h:HP):Prop := ∀ h',Kp lo hi h h'→V h' v
structure Ex (S:List Nat) (h h' : HP):Prop extends Ext S h h' where
 tup:∀ (a:Nat) (vs:List AV),h[a]?=some (AO.tup vs)→h'[a]?=some (AO.tup vs)
section
variable {S T:List Nat}{h h' h'' h1:HP}{i d k lo hi lo' hi' : Nat}{w:Int}{H:Nat}{K:List Int}{V:Vw}{v:AV}
theorem Ex.refl:Ex S h h:=⟨Ext.refl,fun ζ ζ e=>e⟩
theorem Ex.trans (x:Ex S h h') (y:Ex S h' h''):Ex S h h'' := ⟨x.toExt.trans y.toExt,fun a vs e=>y.tup a vs (x.tup a vs e)⟩
theorem Ex.mono (x:Ex S h h') (hs:∀ j∈S,j∈T):Ex T h h' := ⟨x.toExt.mono hs,x.tup⟩
theorem Ex.of (x:Ext [] h h'):Ex [] h h' := ⟨x,fun a vs e=>x.get e Oz.g0⟩
theorem Ex.app {g:HP}:Ex [] h (h++g):=Ex.of Ext.app
theorem Ex.up (x:Ex [] h h'):Ex S h h' := x.mono fun ζ q=>absurd q Oz.g0
theorem Ex.fresh (x:Ex [] h h1) (y:Ex T h1 h') (hs:∀ t∈T,t∈S∨h.length≤t):Ex S h h' := ⟨x.toExt.fresh y.toExt hs,fun a vs e=>y.tup a vs (x.tup a vs e)⟩
theorem Ex.lad (L:Lad h i d k w H K) (x:Ext [d,k] h h'):Ex [d,k] h h' := ⟨x,fun a vs e=>x.get e fun q=>by
 rcases Oz.g6.mp q with rfl | q
 ·rw [L.flds] at e; cases e
 ·rw [Oz.g9.mp q,L.list] at e; cases e⟩
theorem Ex.kp (x:Ex S h h') (hs:∀ s∈S,s<lo∨hi≤s) (hl:hi≤h.length):Kp lo hi h h' := ⟨fun a h1 h2=>x.keep a (Oz.g27 h2 hl) (fun q=>by have:=hs a q; exact Oz.o792 h1 h2 this),x.tup⟩
theorem Sta.kp (s:Sta V v lo hi h) (k:Kp lo hi h h'):Sta V v lo hi h' := fun h'' k'=>s h'' ⟨fun a p q=>(k'.zone a p q).trans (k.zone a p q),fun a vs e=>k'.tup a vs (k.tup a vs e)⟩
theorem Sta.now (s:Sta V v lo hi h):V h v:=s h ⟨fun ζ ζ ζ=>rfl,fun ζ ζ e=>e⟩
theorem Sta.wide (s:Sta V v lo hi h) (a:lo'≤lo) (b:hi≤hi'):Sta V v lo' hi' h:=fun h' k=>s h' ⟨fun c p q=>k.zone c (Oz.g2 a p) (Oz.g27 q b),k.tup⟩
theorem Sta.ex (s:Sta V v lo hi h) (x:Ex S h h') (hs:∀ s∈S,s<lo∨hi≤s) (hl:hi≤h.length):Sta V v lo hi h' := s.kp (x.kp hs hl)
theorem Sta.ex0 (s:Sta V v lo hi h) (x:Ex [] h h') (hl:hi≤h.length):Sta V v lo hi h' := s.ex x (fun ζ q=>absurd q Oz.g0) hl
theorem Dt.eq {k:Nat}{v' : AV}(t:Dt k V) (a:V h v) (b:V h v') (hk:k≤6):eqv 6 h v v'=some true:=by
 have:=t h v v' a b (6 - k)
 rwa [Nat.sub_add_cancel hk] at this
end
noncomputable def One (x:AV):Vw:=fun ζ v=>v=x
noncomputable def IL (L:List Int):Vw:=fun h v=>∃ q,v=.ref q∧h[q]?=some (.list (L.map .int))
noncomputable def LV (Vs:List Vw):Vw:=fun h v=>Oz.E2 fun q vs=>v=.ref q∧h[q]?=some (.list vs)∧vs.length=Vs.length∧∀ (j:Nat) x V,vs[j]?=some x→Vs[j]?=some V→V h x
section
variable {h:HP}{lo hi q k:Nat}{V:Vw}{Vs:List Vw}{v:AV}
theorem ke {j:Nat}(t:Dt k V) (hk:k≤j):Dt j V:=fun h v v' a b m=>by
 have:=t h v v' a b (m+(j - k))
 rwa [show m+(j - k)+k=m+j by exact Oz.o793 hk] at this
theorem Bh {i:Int}:Dt 1 (One (.int i)):=fun h v v' a b m=>by
 rw [show v=_ from a,show v'=_ from b]; exact f5 (some i)
theorem Gj {o:Option Int}:Dt 1 (One (oav o)):=fun h v v' a b m=>by
 rw [show v=_ from a,show v'=_ from b]; exact f5 o
theorem Kw {b:Bool}:Dt 1 (One (.bool b)):=fun h v v' a b m=>by
 rw [show v=_ from a,show v'=_ from b]; exact congrArg some (decide_eq_true rfl)
theorem ug {L:List Int}:Dt 2 (IL L):=fun h v v' a b m=>by
 refine Oz.z fun ζ η=>?_
 obtain⟨q,rfl,e⟩:=a
 obtain⟨q',rfl,e'⟩:=b
 refine η ?_
 refine n8 (m:=m+1) e e' rfl fun j x y hx hy=>?_
 rw [hx] at hy; cases hy
 rw [Oz.g12] at hx
 obtain⟨z,_,rfl⟩:=Oz.g11.mp hx
 exact f5 (some z)
theorem qw (t:∀ V∈Vs,Dt k V):Dt (k+1) (LV Vs):=fun h v v' a b m=>by
 refine Oz.z fun ζ η=>?_
 obtain⟨q,vs,rfl,e,hl,f⟩:=a
 obtain⟨q',vs',rfl,e',hl',f'⟩:=b
 refine η ?_
 refine n8 (m:=m+k) e e' (hl.trans hl'.symm) fun j x y hx hy=>?_
 have lt:j<Vs.length:=by rw [← hl]; exact(Oz.g4.mp hx).1
 have hV:=Oz.g10 lt
 exact t _ (Oz.g16 hV) h x y (f j x _ hx hV) (f' j y _ hy hV) m
theorem cy {x:AV}:Sta (One x) x lo hi h:=fun ζ ζ=>rfl
theorem vo {L:List Int}(e:h[q]?=some (.list (L.map .int))) (a:lo≤q) (b:q<hi):Sta (IL L) (.ref q) lo hi h:=fun h' k=>⟨q,rfl,(k.zone q a b).trans e⟩
structure Row (vs:List AV) (Vs:List Vw) (lo hi:Nat) (h:HP):Prop where
 len:vs.length=Vs.length
 all:∀ (j:Nat) x V,vs[j]?=some x→Vs[j]?=some V→Sta V x lo hi h
theorem Row.nil:Row [] [] lo hi h:=⟨rfl,fun j x V e=>by cases e⟩
theorem Row.cons {x:AV}{vs:List AV}(s:Sta V x lo hi h) (r:Row vs Vs lo hi h):Row (x::vs) (V::Vs) lo hi h:=⟨congrArg (·+1) r.len,fun j y U a b=>by
 cases j with
 | zero=>cases a; cases b; exact s
 | succ j=>exact r.all j y U a b⟩
theorem Row.snoc {x:AV}{vs:List AV}(r:Row vs Vs lo hi h) (s:Sta V x lo hi h):Row (vs++[x]) (Vs++[V]) lo hi h:=⟨by rw [Oz.g26,Oz.g26,r.len]; rfl,fun j y U a b=>by
 by_cases lt:j<vs.length
 ·rw [Oz.g23 lt] at a
  rw [Oz.g23 (by rw [← r.len]; exact lt)] at b
  exact r.all j y U a b
 ·rw [Oz.g29 (Nat.le_of_not_lt lt)] at a
  rw [Oz.g29 (by rw [← r.len]; exact Nat.le_of_not_lt lt),← r.len] at b
  cases e:j - vs.length with
  | zero=>rw [e] at a b; cases a; cases b; exact s
  | succ m=>rw [e] at a; cases a⟩
theorem Row.kp {vs:List AV}{h' : HP}(r:Row vs Vs lo hi h) (x:Kp lo hi h h'):Row vs Vs lo hi h' := ⟨r.len,fun j y U a b=>(r.all j y U a b).kp x⟩
theorem Row.wide {vs:List AV}{lo' hi' : Nat}(r:Row vs Vs lo hi h) (a:lo'≤lo) (b:hi≤hi'):Row vs Vs lo' hi' h:=⟨r.len,fun j y U p q=>(r.all j y U p q).wide a b⟩
theorem nh {vs:List AV}(e:h[q]?=some (.list vs)) (a:lo≤q) (b:q<hi) (r:Row vs Vs lo hi h):Sta (LV Vs) (.ref q) lo hi h:=fun h' k =>
 ⟨q,vs,rfl,(k.zone q a b).trans e,r.len,fun j x V p q=>r.all j x V p q h' k⟩
end
structure Fnd (h:HP) (f:Nat) (Vs:List Vw):Prop where
 ex:∃ vs,h[f]?=some (.list vs)∧Row vs Vs (f+1) h.length h
section
variable {G:Gl}{cl:CallO}{W f:Nat}{l:LOC}{h h1:HP}{b:CE}{y:AV}{V:Vw}{Vs:List Vw}
theorem Fnd.ex0 (F:Fnd h f Vs) (x:Ex [] h h1):Fnd h1 f Vs:=by
 obtain⟨vs,e,r⟩:=F.ex
 exact⟨vs,x.get e Oz.g0,(r.kp (x.kp (fun ζ q=>absurd q Oz.g0) (Oz.g3 _))).wide (Oz.g3 _) x.len⟩
set_option tactic.hygienic true in
theorem qg (F:Fnd h f Vs) (hl:l[2]?=some (some (.ref f))) (hb:ev G cl b l h=.ok y h1) (x:Ex [] h h1) (s:Sta V y (f+1) h1.length h1) (z:Vs.length≤99999) :
  ∃ h2,exec G cl W (.ex (.bm .append (.loc 2) (.cons b .nil))) l h=.next l h2∧Fnd h2 f (Vs++[V])∧Ex [f] h h2:=by
 refine Oz.z fun ζ η=>?_
 obtain⟨vs,e,r⟩:=F.ex
 obtain⟨vs',e1,r1⟩:=(F.ex0 x).ex
 refine η ?_
 have e2:=x.get e Oz.g0
 rw [e2] at e1; cases e1
 have kp:Kp (f+1) h1.length h1 (h1.set f (.list (vs++[y]))):=⟨fun a p ζ=>Oz.g21 (by exact Oz.o794 p),fun a us q=>(Oz.g21 (fun q'=>by subst q'; rw [e2] at q; cases q)).trans q⟩
 refine⟨_,ca (jd (aa hl) e hb e2 (decide_eq_true (by have:=r.len; exact Oz.o795 z this))),⟨vs++[y],?_,?_⟩,⟨?_,fun a us q=>kp.tup a us (x.tup a us q)⟩⟩
 ·rw [List.getElem?_set_self (Oz.g4.mp e2).1]
 ·rw [List.length_set]; exact(r1.kp kp).snoc (s.kp kp)
 ·refine⟨by rw [List.length_set]; exact x.len,fun j hj hs=>?_⟩
  rw [Oz.g21 (fun q=>hs (by rw [q]; exact .head _))]
  exact x.keep j hj Oz.g0
end
end N14
end Sk
set_option autoImplicit false
namespace Sk
namespace N14
section
variable {G:Gl}{cl:CallO}{l:LOC}{α:Type}{g:Grd}{lo:Nat}
theorem za {cond elt:AV→HP→R AV}{e:α→AV}{p:α→Bool}{V:α→Vw}:∀ (L:List α) (h:HP),(∀ h',Ex [] h h'→okG g h'=true) →
  (∀ a∈L,∀ h',Ex [] h h'→∃ h1,cond (e a) h'=.ok (.bool (p a)) h1∧Ex [] h' h1∧(p a=true→Oz.E2 fun x h2=>elt (e a) h1=.ok x h2∧Ex [] h1 h2∧Sta (V a) x lo h2.length h2)) →
  Oz.E2 fun xs h'=>da g cond elt (L.map e) h=.ok xs h'∧Ex [] h h'∧Row xs ((L.filter p).map V) lo h'.length h'
 | [],h,hg,_=>⟨[],h,if_pos (hg h Ex.refl),Ex.refl,Row.nil⟩
 | a::L,h,hg,he=>by
  obtain⟨h1,ec,x1,f⟩:=he a (.head _) h Ex.refl
  have rest:∀ h2,Ex [] h h2→Oz.E2 fun xs h'=>da g cond elt (L.map e) h2=.ok xs h'∧Ex [] h2 h'∧Row xs ((L.filter p).map V) lo h'.length h' := fun h2 x2 =>
   za L h2 (fun h' y=>hg h' (x2.trans y)) (fun b hb h' y=>he b (.tail _ hb) h' (x2.trans y))
  have u:da g cond elt ((a::L).map e) h=(if okG g h then (cond (e a) h).noexc.bind (fun c h₁=>match truthy c with
   | some true=>(elt (e a) h₁).noexc.bind fun x h₂=>(da g cond elt (L.map e) h₂).bind fun xs h₃=>.ok (x::xs) h₃
   | some false=>da g cond elt (L.map e) h₁
   | Option.none=>.err) else .err):=rfl
  rw [if_pos (hg h Ex.refl),ec] at u
  cases q:p a with
  | false =>
   refine Oz.z fun ζ η=>?_
   obtain⟨xs,h',e2,x2,r⟩:=rest h1 x1
   refine η ?_
   rw [q] at u
   exact⟨xs,h',u.trans e2,x1.trans x2,by rw [List.filter_cons_of_neg (by rw [q]; decide)]; exact r⟩
  | true =>
   refine Oz.z fun ζ1 η1=>?_
   obtain⟨x,h2,e2,x2,s⟩:=f q
   obtain⟨xs,h',e3,x3,r⟩:=rest h2 (x1.trans x2)
   refine η1 ?_
   rw [q] at u
   refine⟨x::xs,h',u.trans ?_,(x1.trans x2).trans x3,?_⟩
   ·show(elt (e a) h1).noexc.bind _=_
    rw [e2]
    show(da g cond elt (L.map e) h2).bind _=_
    rw [e3]; rfl
   ·rw [List.filter_cons_of_pos q]
    exact Row.cons ((s.ex0 x3 (Oz.g3 _)).wide (Oz.g3 _) x3.len) r
theorem jv {elt cond:CE}{ik:IK}{es:CEs}{vs:List AV}{h h1:HP}{e:α→AV}{p:α→Bool}{V:α→Vw}{L:List α}(he:evs G cl es l h=.ok vs h1) (x1:Ex [] h h1) (hi:bp ik vs h1=some (L.map e,g)) (hz:L.length≤99999) (hlo:lo≤h1.length) (hg:∀ h',Ex [] h1 h'→okG g h'=true)
  (hc:∀ a∈L,∀ h',Ex [] h1 h'→∃ h2,ev G cl cond (l++[some (e a)]) h'=.ok (.bool (p a)) h2∧Ex [] h' h2∧(p a=true→Oz.E2 fun x h3=>ev G cl elt (l++[some (e a)]) h2=.ok x h3∧Ex [] h2 h3∧Sta (V a) x lo h3.length h3)) :
  Oz.E3 fun q xs h'=>ev G cl (.comp elt ik es cond) l h=.ok (.ref q) h'∧Ex [] h h'∧h1.length≤q∧h'[q]?=some (.list xs)∧Row xs ((L.filter p).map V) lo h'.length h'∧Sta (LV ((L.filter p).map V)) (.ref q) lo h'.length h' := by
 refine Oz.z fun ζ η=>?_
 obtain⟨xs,h2,e2,x2,r⟩:=za (g:=g) (lo:=lo) (cond:=fun v h'=>ev G cl cond (l++[some v]) h') (elt:=fun v h'=>ev G cl elt (l++[some v]) h') (e:=e) (p:=p) (V:=V) L h1 hg hc
 refine η ?_
 have x3:Ex [] h2 (h2++[AO.list xs]):=Ex.app
 have r3:=(r.kp (x3.kp (fun ζ q=>absurd q Oz.g0) (Oz.g3 _))).wide (Oz.g3 lo) x3.len
 have e3:(h2++[AO.list xs])[h2.length]?=some (.list xs):=ak
 exact⟨h2.length,xs,_,Kv he hi (decide_eq_true (by rw [Oz.g13]; exact Oz.o253 hz)) e2,x1.trans (x2.trans x3),x2.len,e3,r3,nh e3 (Oz.g2 hlo x2.len) (Oz.g4.mp e3).1 r3⟩
end
theorem gu {K K' : List Int}(a:K.Pairwise (·<·)) (b:K'.Pairwise (·<·)) (m:∀ x,x∈K↔x∈K'):K=K' := by
 have na:K.Nodup:=a.imp fun q=>Int.ne_of_lt q
 have nb:K'.Nodup:=b.imp fun q=>Int.ne_of_lt q
 exact List.Perm.eq_of_pairwise (le:=(·<·)) (fun x y ζ ζ p q=>absurd p (Int.not_lt.mpr (Int.le_of_lt q))) a b ((List.perm_ext_iff_of_nodup na nb).mpr m)
theorem Met.same {w B N:Int}{H T T' : Nat}(a:Met w B N H T) (b:Met w B N H T'):T=T' := by
 rcases Nat.lt_trichotomy T T' with q | q | q
 ·exact absurd (a.meet (by have:=b.le; exact Oz.o340 q this)) (b.apart T q)
 ·exact q
 ·exact absurd (b.meet (by have:=a.le; exact Oz.o340 q this)) (a.apart T' q)
theorem fz.same {w:Int}{H:Nat}{b:Option Int}{n:Int}{T T' : Nat}(a:fz w H b n T) (c:fz w H b n T'):T=T' := by
 cases b with
 | none=>exact Eq.trans (show T=H+1 from a) (show T'=H+1 from c).symm
 | some b=>exact Met.same (show Met w b n H T from a) c
noncomputable def CH (w:Int) (H:Nat) (b a:Option Int) (N:Int) (mk:Nat→AV→List AV):Vw:=fun h v=>Oz.E4 fun T T2 T3 c=>v=.ref (c+1)∧fz w H b N T∧(∀ y,a=some y→fz w H b y T2∧Met w N y H T3)∧Told h c T (fun l=>mk l (bif bo a T2 T3 l then oav a else .none))
theorem I8 {w:Int}{H:Nat}{b a:Option Int}{N:Int}{mk:Nat→AV→List AV}(hm:∀ l o h m,∀ (j:Nat) x,(mk l (oav o))[j]?=some x→eqv (m+1) h x x=some true):Dt 3 (CH w H b a N mk):=fun h v v' p q m=>by
 refine Oz.z fun ζ η=>?_
 obtain⟨T,T2,T3,c,rfl,t1,t2,to⟩:=p
 obtain⟨T',T2',T3',c',rfl,t1',t2',to'⟩:=q
 refine η ?_
 cases fz.same t1 t1'
 have eg:∀ l,bo a T2 T3 l=bo a T2' T3' l:=fun l=>by
  cases a with
  | none=>rfl
  | some y =>
   obtain⟨u1,u2⟩:=t2 y rfl
   obtain⟨u1',u2'⟩:=t2' y rfl
   rw [fz.same u1 u1',Met.same u2 u2']
 refine n8 (m:=m+2) to.refs to'.refs (by simp) fun j x y hx hy=>?_
 rw [Oz.g12] at hx hy
 refine Oz.z fun ζ1 η1=>?_
 obtain⟨z,hz,rfl⟩:=Oz.g11.mp hx
 obtain⟨z',hz',rfl⟩:=Oz.g11.mp hy
 refine η1 ?_
 rw [hz] at hz'; cases hz'
 have lt:z<T:=List.mem_range.mp (Oz.g16 hz)
 refine u9 (m:=m+1) (to.tups z lt) (to'.tups z lt) (by rw [eg]) fun j' x y hx hy=>?_
 rw [← eg,hx] at hy; cases hy
 have ho:(bif bo a T2 T3 z then oav a else .none)=oav (bif bo a T2 T3 z then a else Option.none):=by cases bo a T2 T3 z <;> rfl
 rw [ho] at hx
 exact hm _ _ _ _ _ _ hx
theorem zt {h:HP}{c T lo:Nat}{w:Int}{H:Nat}{b a:Option Int}{N:Int}{T2 T3:Nat}{mk:Nat→AV→List AV}(t1:fz w H b N T) (t2:∀ y,a=some y→fz w H b y T2∧Met w N y H T3) (to:Told h c T (fun l=>mk l (bif bo a T2 T3 l then oav a else .none))) (hlo:lo≤c) :
  Sta (CH w H b a N mk) (.ref (c+1)) lo h.length h:=fun h' k=>⟨T,T2,T3,c,rfl,t1,t2,⟨(k.zone _ (by exact Oz.o439 hlo) (Oz.g4.mp to.refs).1).trans to.refs,fun l hl=>k.tup _ _ (to.tups l hl)⟩⟩
noncomputable def PV (w:Int) (H:Nat) (K:List Int) (N:Int):Vw:=fun h v=>∃ p,Pl K N p∧CH w H (bef K p) K[p]? N (fun l o=>[.int (l:Nat),.int N,o]) h v
noncomputable def TV (w:Int) (H:Nat) (K:List Int) (N:Int):Vw:=fun h v=>∃ p:Nat,K[p]?=some N∧CH w H (bef K p) K[p+1]? N (fun l o=>[.int (l:Nat),o,.int N]) h v
theorem Of {w:Int}{H:Nat}{K:List Int}{N:Int}:Dt 3 (PV w H K N):=fun h v v' a b m=>by
 refine Oz.z fun ζ η=>?_
 obtain⟨p,hp,c⟩:=a
 obtain⟨p',hp',c'⟩:=b
 refine η ?_
 cases hp.same hp'
 refine I8 (fun l o h m j x hx=>?_) h v v' c c' m
 match j,hx with
 | 0,hx=>cases hx; exact f5 (some _)
 | 1,hx=>cases hx; exact f5 (some _)
 | 2,hx=>cases hx; exact f5 _
theorem Oe {w:Int}{H:Nat}{K:List Int}{N:Int}(s:K.Pairwise (·<·)):Dt 3 (TV w H K N):=fun h v v' a b m=>by
 refine Oz.z fun ζ η=>?_
 obtain⟨p,hp,c⟩:=a
 obtain⟨p',hp',c'⟩:=b
 refine η ?_
 cases (jg s hp).same (jg s hp')
 refine I8 (fun l o h m j x hx=>?_) h v v' c c' m
 match j,hx with
 | 0,hx=>cases hx; exact f5 (some _)
 | 1,hx=>cases hx; exact f5 _
 | 2,hx=>cases hx; exact f5 (some _)
end N14
end Sk
set_option autoImplicit false
namespace Sk
namespace N14
noncomputable def cg:CS:=.seq (.ret (.bool false)) .skip
noncomputable def vt (a b:Nat):CS:=.seq (.ex (.meth (.loc a) 6 (.cons (.loc b) .nil))) .skip
noncomputable def wn (a b:Nat):CS:=.seq (.ex (.meth (.loc a) 7 (.cons (.loc b) .nil))) .skip
noncomputable def Nn:CS:=(.seq (.ite (.cmp .ge (.loc 3) (.loc 1)) (.seq (.ex (.meth (.loc 0) 7 (.cons (.loc 3) .nil))) (.seq (.ex (.meth (.loc 2) 6 (.cons (.loc 3) .nil))) .skip)) .skip) .skip)
noncomputable def I3 (X:CS):CS:=(.seq (.ite (.not (.chain (.int 0) .le (.loc 1) .le (.attr (.loc 0) 2))) (.seq X .skip) .skip) (.seq (.asg 2 (.new 0 (.cons (.attr (.loc 0) 0) (.cons (.attr (.loc 0) 1) .nil)))) (.seq (.for1 3 .val (.cons (.meth (.loc 0) 8 .nil) .nil) Nn) (.seq (.ret (.loc 2)) .skip))))
noncomputable def Fl:CS:=(.seq (.asg 3 (.new 0 (.cons (.loc 0) (.cons (.loc 1) .nil)))) (.seq (.for1 4 .rev (.cons (.loc 2) .nil) (vt 3 4)) (.seq (.ret (.loc 3)) .skip)))
noncomputable def ul:CS:=(.seq (.tr (.seq (.ex (.call 23 (.cons (.loc 0) (.cons (.loc 1) .nil)))) .skip) (.cons 8 (some 2) (.seq (.ret (.bf .int (.cons (.and (.isinst (.loc 2) (.own 1)) (.isinst (.loc 2) .valueError)) .nil))) .skip) (.cons 4 (some 2) (.seq (.ret (.bin .mul (.int 2) (.bf .int (.cons (.and (.isinst (.loc 2) (.own 1)) (.isinst (.loc 2) .valueError)) .nil)))) .skip) .nil))) (.seq (.ret (.int 0)) .skip))
noncomputable def Cn:CS:=(.seq (.asg 2 (.int 0)) (.seq (.tr (.seq (.ex (.call 22 (.cons (.loc 0) (.cons (.loc 1) .nil)))) .skip) (.cons 3 Option.none (.seq (.asg 2 (.bin .add (.loc 2) (.int 1))) .skip) .nil)) (.seq (.tr (.seq (.ex (.call 22 (.cons (.loc 0) (.cons (.loc 1) .nil)))) .skip) (.cons 1 (some 3) (.seq (.asg 2 (.bin .add (.loc 2) (.bf .int (.cons (.isinst (.loc 3) .valueError) .nil)))) .skip) .nil)) (.seq (.ret (.cmp .eq (.loc 2) (.int 2))) .skip))))
noncomputable def toA:CS:=(.seq (.asg 5 (.bf .list (.cons (.meth (.loc 0) 9 (.cons (.loc 3) .nil)) .nil))) (.seq (.ex (.bm .append (.loc 2) (.cons (.loc 5) .nil))) (.seq (.ite (.cmp .eq (.loc 3) (.bin .mod (.item (.loc 1) (.int 0)) (.bin .add (.attr (.loc 0) 1) (.int 1)))) (.seq (.ex (.bm .append (.loc 2) (.cons (.comp (.meth (.loc 0) 10 (.cons (.loc 3) (.cons (.loc 6) .nil))) .val (.cons (.loc 5) .nil) (.bool true)) .nil))) .skip) .skip) .skip)))
noncomputable def toB:CS:=(.seq (.ex (.bm .append (.loc 2) (.cons (.list (.cons (.meth (.loc 0) 5 (.cons (.loc 4) .nil)) (.cons (.meth (.loc 0) 12 (.cons (.loc 4) .nil)) (.cons (.meth (.loc 0) 13 (.cons (.loc 4) .nil)) (.cons (.meth (.loc 0) 14 (.cons (.loc 4) .nil)) .nil))))) .nil))) (.seq (.ex (.bm .append (.loc 2) (.cons (.bf .list (.cons (.meth (.loc 0) 11 (.cons (.loc 4) .nil)) .nil)) .nil))) .skip))
noncomputable def toD:CS:=(.ite (.cmp .gt (.attr (.loc 0) 3) (.int 0)) (.seq (.ex (.bm .append (.loc 2) (.cons (.list (.cons (.meth (.loc 0) 15 (.cons (.bin .mod (.item (.loc 1) (.int 0)) (.attr (.loc 0) 3)) .nil)) (.cons (.bf .list (.cons (.meth (.loc 0) 16 (.cons (.bin .mod (.item (.loc 1) (.int 0)) (.attr (.loc 0) 3)) .nil)) .nil)) .nil))) .nil))) (.seq (.ex (.bm .append (.loc 2) (.cons (.list (.cons (.meth (.loc 0) 15 (.cons (.int 0) .nil)) (.cons (.meth (.loc 0) 15 (.cons (.bin .sub (.attr (.loc 0) 3) (.int 1)) .nil)) .nil))) .nil))) .skip)) .skip)
noncomputable def Fk:CS:=(.seq (.asg 2 (.list (.cons (.attr (.loc 0) 0) (.cons (.attr (.loc 0) 1) (.cons (.attr (.loc 0) 2) (.cons (.attr (.loc 0) 3) .nil)))))) (.seq (.for1 3 .range1 (.cons (.bin .add (.attr (.loc 0) 1) (.int 1)) .nil) toA) (.seq (.for1 4 .val (.cons (.slice (.loc 1) (.int 1) .none 0) .nil) toB) (.seq (.ex (.bm .append (.loc 2) (.cons (.list (.cons (.bf .list (.cons (.meth (.loc 0) 8 .nil) .nil)) (.cons (.bf .list (.cons (.meth (.loc 0) 17 (.cons (.item (.loc 1) (.int 1)) (.cons (.item (.loc 1) (.int 2)) .nil))) .nil)) (.cons (.meth (.loc 0) 18 (.cons (.item (.loc 1) (.int 2)) (.cons (.item (.loc 1) (.int 1)) .nil))) .nil)))) .nil))) (.seq toD (.seq (.ret (.loc 2)) .skip))))))
noncomputable def Fq:CS:=(.seq (.asg 2 (.int 0)) (.seq (zm 2 7 (.meth (.loc 0) 15 (.cons (.attr (.loc 0) 3) .nil))) (.seq (zm 2 7 (.meth (.loc 0) 16 (.cons (.attr (.loc 0) 3) .nil))) (.seq (.for1 3 .range1 (.cons (.bin .add (.attr (.loc 0) 1) (.int 1)) .nil) (.seq (zm 2 5 (.meth (.loc 0) 10 (.cons (.loc 3) (.cons (.loc 1) .nil)))) .skip)) (.seq (.ret (.cmp .eq (.loc 2) (.bin .add (.int 3) (.attr (.loc 0) 1)))) .skip)))))
noncomputable def yk:CS:=(.seq (.tr (.seq (.ite (.or (.cmp .eq (.meth (.loc 0) 16 (.cons (.bin .sub (.attr (.loc 0) 3) (.int 1)) .nil)) (.list .nil)) (.cmp .lt (.meth (.loc 0) 15 (.cons (.bin .sub (.attr (.loc 0) 3) (.int 1)) .nil)) (.loc 1))) cg .skip) (.seq (.asg 2 (.comp (.loc 4) .range1 (.cons (.bin .add (.attr (.loc 0) 1) (.int 1)) .nil) (.isin false (.loc 1) (.meth (.loc 0) 9 (.cons (.loc 4) .nil))))) (.seq (.asg 3 (.comp (.meth (.loc 0) 10 (.cons (.loc 4) (.cons (.loc 1) .nil))) .val (.cons (.loc 2) .nil) (.bool true))) (.seq (.ret (.and (.cmp .ne (.loc 3) (.list .nil)) (.bf .all (.cons (.comp (.isinst (.loc 4) .tup) .val (.cons (.loc 3) .nil) (.bool true)) .nil)))) .skip)))) (.cons 1 Option.none cg .nil)) .skip)
noncomputable def Fp:CS:=(.seq (.ite (.cmp .eq (.loc 1) (.list .nil)) (.seq (.ret (.bool true)) .skip) .skip) (.seq (.asg 3 (.new 0 (.cons (.attr (.loc 0) 0) (.cons (.attr (.loc 0) 1) .nil)))) (.seq (.ex (.meth (.loc 3) 6 (.cons (.item (.loc 1) (.bin .mod (.item (.loc 2) (.int 0)) (.bf .len (.cons (.loc 1) .nil)))) .nil))) (.seq (.for1 4 .val (.cons (.list (.cons (.int 0) (.cons (.int 1) (.cons (.int 2) (.cons (.bin .fdiv (.attr (.loc 0) 2) (.int 2)) (.cons (.bin .sub (.attr (.loc 0) 2) (.int 2)) (.cons (.bin .sub (.attr (.loc 0) 2) (.int 1)) .nil))))))) .nil) (.seq (.ite (.and (.cmp .lt (.loc 4) (.attr (.loc 0) 2)) (.and (.isin true (.loc 4) (.loc 1)) (.not (.meth (.loc 3) 5 (.cons (.loc 4) .nil))))) (.seq (.ex (.meth (.loc 3) 6 (.cons (.loc 4) .nil))) .skip) .skip) .skip)) (.seq (.asg 5 (.call 28 (.cons (.loc 0) (.cons (.loc 2) .nil)))) (.seq (.asg 6 (.call 28 (.cons (.loc 3) (.cons (.loc 2) .nil)))) (.seq (.ite (.or (.cmp .ne (.call 30 (.cons (.loc 0) (.cons (.loc 3) .nil))) (.int 2)) (.cmp .ne (.call 30 (.cons (.loc 3) (.cons (.loc 0) .nil))) (.int 2))) cg .skip) (.seq (.ret (.and (.cmp .eq (.call 28 (.cons (.loc 0) (.cons (.loc 2) .nil))) (.loc 5)) (.cmp .eq (.call 28 (.cons (.loc 3) (.cons (.loc 2) .nil))) (.loc 6)))) .skip))))))))
noncomputable def Az:CS:=(.seq (.ite (.cmp .ne (.call 30 (.cons (.loc 0) (.cons (.loc 0) .nil))) (.item (.list (.cons (.int 0) (.cons (.int 2) .nil))) (.bf .int (.cons (.cmp .ne (.loc 2) (.list .nil)) .nil)))) cg .skip) (.seq (.ite (.cmp .ne (.loc 2) (.list .nil)) (.seq (.ex (.meth (.loc 0) 7 (.cons (.item (.loc 2) (.neg (.int 1))) .nil))) (.seq (.ex (.meth (.loc 0) 6 (.cons (.item (.loc 2) (.neg (.int 1))) .nil))) (.seq (.ex (.meth (.loc 0) 7 (.cons (.item (.loc 2) (.int 0)) .nil))) .skip))) .skip) (.seq (.ite (.cmp .ne (.loc 3) (.list .nil)) (.seq (.asg 6 (.call 29 (.cons (.attr (.loc 0) 0) (.cons (.attr (.loc 0) 1) (.cons (.loc 3) .nil))))) (.seq (.ite (.cmp .ne (.meth (.loc 1) 7 (.cons (.item (.loc 3) (.int 0)) .nil)) (.meth (.loc 6) 7 (.cons (.item (.loc 3) (.int 0)) .nil))) cg .skip) .skip)) .skip) (.seq (.asg 5 (.call 29 (.cons (.attr (.loc 0) 0) (.cons (.attr (.loc 0) 1) (.cons (.slice (.loc 2) (.int 1) .none 0) .nil))))) (.seq (.ite (.cmp .ne (.call 28 (.cons (.loc 0) (.cons (.loc 4) .nil))) (.call 28 (.cons (.loc 5) (.cons (.loc 4) .nil)))) cg .skip) (.seq (.ret (.and (.call 35 (.cons (.loc 1) (.cons (.slice (.loc 3) (.int 1) .none 0) (.cons (.loc 4) .nil)))) (.call 35 (.cons (.loc 0) (.cons (.slice (.loc 2) (.int 1) .none 0) (.cons (.loc 4) .nil)))))) .skip))))))
noncomputable def Co:CS:=(.seq (.asg 3 (.call 29 (.cons (.attr (.loc 0) 0) (.cons (.attr (.loc 0) 1) (.cons (.loc 1) .nil))))) (.seq (.ite (.and (.isin true (.item (.loc 2) (.int 2)) (.loc 1)) (.cmp .ne (.meth (.loc 0) 6 (.cons (.item (.loc 2) (.int 2)) .nil)) (.meth (.loc 3) 6 (.cons (.item (.loc 2) (.int 2)) .nil)))) cg .skip) (.seq (.asg 1 (.bf .sorted (.cons (.bin .add (.comp (.loc 7) .val (.cons (.loc 1) .nil) (.cmp .ne (.loc 7) (.item (.loc 2) (.int 2)))) (.list (.cons (.item (.loc 2) (.int 2)) .nil))) .nil))) (.seq (.asg 4 (.call 22 (.cons (.loc 0) (.cons (.item (.loc 2) (.int 1)) .nil)))) (.seq (.asg 5 (.call 29 (.cons (.attr (.loc 0) 0) (.cons (.attr (.loc 0) 1) (.cons (.comp (.loc 7) .val (.cons (.loc 1) .nil) (.cmp .lt (.loc 7) (.item (.loc 2) (.int 1)))) .nil))))) (.seq (.asg 6 (.call 29 (.cons (.attr (.loc 0) 0) (.cons (.attr (.loc 0) 1) (.cons (.comp (.loc 7) .val (.cons (.loc 1) .nil) (.cmp .ge (.loc 7) (.item (.loc 2) (.int 1)))) .nil))))) (.seq (.ite (.or (.not (.call 34 (.cons (.loc 0) (.cons (.item (.loc 2) (.int 1)) .nil)))) (.not (.call 34 (.cons (.loc 4) (.cons (.bin .sub (.item (.loc 2) (.int 1)) (.int 1)) .nil))))) cg .skip) (.seq (.ret (.and (.cmp .eq (.call 28 (.cons (.loc 0) (.cons (.loc 2) .nil))) (.call 28 (.cons (.loc 5) (.cons (.loc 2) .nil)))) (.cmp .eq (.call 28 (.cons (.loc 4) (.cons (.loc 2) .nil))) (.call 28 (.cons (.loc 6) (.cons (.loc 2) .nil)))))) .skip))))))))
noncomputable def Ck:CS:=(.seq (.asg 4 (.list (.cons (.slice (.loc 0) .none .none 2) (.cons (.slice (.loc 0) (.int 1) .none 2) .nil)))) (.seq (.ite (.cmp .eq (.bin .mod (.item (.loc 3) (.int 0)) (.int 3)) (.int 1)) (.seq (.asg 4 (.list (.cons (.slice (.loc 0) (.int 1) .none 2) (.cons (.slice (.loc 0) .none .none 2) .nil)))) .skip) .skip) (.seq (.ite (.cmp .eq (.bin .mod (.item (.loc 3) (.int 0)) (.int 3)) (.int 2)) (.seq (.asg 4 (.list (.cons (.slice (.loc 0) (.bin .fdiv (.bf .len (.cons (.loc 0) .nil)) (.int 2)) .none 0) (.cons (.slice (.loc 0) .none (.bin .fdiv (.bf .len (.cons (.loc 0) .nil)) (.int 2)) 0) .nil)))) .skip) .skip) (.seq (.asg 5 (.call 29 (.cons (.item (.loc 2) (.int 0)) (.cons (.item (.loc 2) (.int 1)) (.cons (.item (.loc 4) (.int 0)) .nil))))) (.seq (.asg 6 (.call 29 (.cons (.item (.loc 2) (.int 0)) (.cons (.item (.loc 2) (.int 1)) (.cons (.item (.loc 4) (.int 1)) .nil))))) (.seq (.asg 7 (.call 28 (.cons (.loc 6) (.cons (.loc 3) .nil)))) (.seq (.ret (.and (.isC false (.call 23 (.cons (.loc 5) (.cons (.loc 6) .nil))) Option.none) (.and (.cmp .eq (.call 28 (.cons (.loc 5) (.cons (.loc 3) .nil))) (.loc 1)) (.cmp .eq (.call 28 (.cons (.loc 6) (.cons (.loc 3) .nil))) (.loc 7))))) .skip)))))))
noncomputable def Cl:CS:=(.seq (.asg 4 (.item (.loc 3) (.int 2))) (.seq (.asg 5 (.list (.cons (.meth (.loc 0) 8 .nil) (.cons (.meth (.loc 0) 9 (.cons (.attr (.loc 0) 1) .nil)) (.cons (.meth (.loc 0) 11 (.cons (.loc 4) .nil)) (.cons (.meth (.loc 0) 17 (.cons (.int 0) (.cons (.attr (.loc 0) 2) .nil))) .nil)))))) (.seq (.asg 6 (.comp (.bf .list (.cons (.loc 8) .nil)) .val (.cons (.loc 5) .nil) (.bool true))) (.seq (.asg 7 (.comp (.loc 8) .val (.cons (.loc 1) .nil) (.cmp .ne (.loc 8) (.loc 4)))) (.seq (.ite (.isin false (.loc 4) (.loc 1)) (.seq (.ex (.meth (.loc 0) 7 (.cons (.loc 4) .nil))) .skip) .skip) (.seq (.ite (.not (.call 34 (.cons (.loc 0) (.cons (.loc 4) .nil)))) cg .skip) (.seq (.ite (.isin true (.loc 4) (.loc 1)) (.seq (.ex (.meth (.loc 0) 6 (.cons (.loc 4) .nil))) (.seq (.asg 7 (.bin .add (.loc 1) (.list (.cons (.loc 4) .nil)))) .skip)) .skip) (.seq (.ite (.and (.isin true (.loc 4) (.loc 1)) (.not (.call 37 (.cons (.loc 0) (.cons (.loc 4) .nil))))) cg .skip) (.seq (.ite (.cmp .ne (.call 28 (.cons (.loc 0) (.cons (.loc 3) .nil))) (.call 28 (.cons (.call 29 (.cons (.attr (.loc 0) 0) (.cons (.attr (.loc 0) 1) (.cons (.bf .sorted (.cons (.loc 7) .nil)) .nil)))) (.cons (.loc 3) .nil)))) cg .skip) (.seq (.ite (.isin true (.loc 4) (.loc 1)) (.seq (.ex (.meth (.loc 0) 7 (.cons (.loc 4) .nil))) (.seq (.ret (.and (.cmp .eq (.call 28 (.cons (.loc 0) (.cons (.loc 3) .nil))) (.loc 2)) (.cmp .eq (.loc 5) (.loc 6)))) .skip)) .skip) (.seq (.ex (.meth (.loc 0) 6 (.cons (.loc 4) .nil))) (.seq (.ret (.and (.call 37 (.cons (.loc 0) (.cons (.loc 4) .nil))) (.and (.cmp .eq (.call 28 (.cons (.loc 0) (.cons (.loc 3) .nil))) (.loc 2)) (.cmp .eq (.loc 5) (.loc 6))))) .skip))))))))))))
noncomputable def Cm:CS:=(.seq (.asg 2 (.slice (.comp (.loc 3) .val (.cons (.tup (.cons (.int 0) (.cons (.int 1) .nil))) .nil) (.isin true (.loc 3) (.loc 1))) .none (.int 1) 0)) (.seq (.ite (.cmp .ne (.call 30 (.cons (.loc 0) (.cons (.call 29 (.cons (.attr (.loc 0) 0) (.cons (.attr (.loc 0) 1) (.cons (.loc 2) .nil)))) .nil))) (.int 0)) cg .skip) (.seq (.ret (.cmp .eq (.meth (.loc 0) 8 .nil) (.bf .sorted (.cons (.bin .add (.loc 1) (.loc 2)) .nil)))) .skip)))
noncomputable def Fo:CS:=(.seq (.asg 4 (.attr (.loc 0) 0)) (.seq (.asg 5 (.attr (.loc 0) 1)) (.seq (.asg 6 (.call 28 (.cons (.loc 0) (.cons (.loc 3) .nil)))) (.seq (.ite (.or (.not (.call 38 (.cons (.loc 0) (.cons (.loc 1) (.cons (.loc 6) (.cons (.loc 3) .nil)))))) (.not (.call 36 (.cons (.loc 1) (.cons (.loc 6) (.cons (.list (.cons (.loc 4) (.cons (.loc 5) .nil))) (.cons (.loc 3) .nil))))))) cg .skip) (.seq (.asg 7 (.comp (.loc 14) .val (.cons (.loc 1) .nil) (.cmp .ge (.loc 14) (.loc 2)))) (.seq (.asg 8 (.call 29 (.cons (.loc 4) (.cons (.loc 5) (.cons (.comp (.loc 14) .val (.cons (.loc 1) .nil) (.cmp .lt (.loc 14) (.loc 2))) .nil))))) (.seq (.asg 9 (.call 22 (.cons (.loc 0) (.cons (.loc 2) .nil)))) (.seq (.asg 10 (.call 28 (.cons (.call 29 (.cons (.loc 4) (.cons (.loc 5) (.cons (.loc 7) .nil)))) (.cons (.loc 3) .nil)))) (.seq (.ite (.or (.cmp .ne (.call 28 (.cons (.loc 9) (.cons (.loc 3) .nil))) (.loc 10)) (.cmp .ne (.call 28 (.cons (.loc 0) (.cons (.loc 3) .nil))) (.call 28 (.cons (.loc 8) (.cons (.loc 3) .nil))))) cg .skip) (.seq (.ite (.or (.isC true (.call 23 (.cons (.loc 0) (.cons (.loc 9) .nil))) Option.none) (.or (.cmp .ne (.call 28 (.cons (.loc 0) (.cons (.loc 3) .nil))) (.loc 6)) (.cmp .ne (.call 28 (.cons (.loc 9) (.cons (.loc 3) .nil))) (.loc 10)))) cg .skip) (.seq (.ite (.and (.cmp .ne (.loc 7) (.list .nil)) (.cmp .ne (.call 30 (.cons (.loc 0) (.cons (.loc 9) .nil))) (.int 2))) cg .skip) (.seq (.asg 11 (.new 0 (.cons (.loc 4) (.cons (.bin .add (.bin .mod (.loc 5) (.int 12)) (.int 1)) .nil)))) (.seq (.ite (.and (.cmp .lt (.loc 4) (.int 4)) (.cmp .eq (.bin .mod (.loc 5) (.int 2)) (.int 0))) (.seq (.asg 11 (.new 0 (.cons (.bin .mul (.loc 4) (.loc 4)) (.cons (.bin .fdiv (.loc 5) (.int 2)) .nil)))) .skip) .skip) (.seq (.asg 12 (.comp (.loc 14) .val (.cons (.slice (.loc 7) .none (.int 1) 0) .nil) (.cmp .lt (.loc 14) (.attr (.loc 11) 2)))) (.seq (.for1 13 .val (.cons (.loc 12) .nil) (.seq (.ex (.meth (.loc 11) 6 (.cons (.loc 13) .nil))) .skip)) (.seq (.ite (.or (.cmp .ne (.call 30 (.cons (.loc 11) (.cons (.loc 9) .nil))) (.int 1)) (.or (.cmp .ne (.meth (.loc 11) 8 .nil) (.loc 12)) (.cmp .ne (.call 30 (.cons (.new 0 (.cons (.bin .add (.bin .mod (.loc 4) (.int 8)) (.int 2)) (.cons (.loc 5) .nil))) (.cons (.loc 9) .nil))) (.int 1)))) cg .skip) (.seq (.ite (.or (.not (.call 32 (.cons (.loc 0) (.cons (.loc 1) (.cons (.loc 3) .nil))))) (.not (.call 39 (.cons (.loc 11) (.cons (.loc 12) .nil))))) cg .skip) (.seq (.ite (.or (.cmp .ne (.call 28 (.cons (.loc 0) (.cons (.loc 3) .nil))) (.loc 6)) (.cmp .ne (.call 28 (.cons (.loc 9) (.cons (.loc 3) .nil))) (.loc 10))) cg .skip) (.seq (.for1 13 .val (.cons (.loc 7) .nil) (.seq (.ex (.meth (.loc 0) 7 (.cons (.loc 13) .nil))) .skip)) (.seq (.ite (.or (.cmp .ne (.call 30 (.cons (.loc 0) (.cons (.loc 9) .nil))) (.int 0)) (.or (.cmp .ne (.call 28 (.cons (.loc 0) (.cons (.loc 3) .nil))) (.loc 6)) (.cmp .ne (.call 28 (.cons (.loc 9) (.cons (.loc 3) .nil))) (.loc 10)))) cg .skip) (.seq (.ret (.call 33 (.cons (.loc 0) (.cons (.loc 9) (.cons (.loc 1) (.cons (.loc 7) (.cons (.loc 3) .nil))))))) .skip)))))))))))))))))))))
noncomputable def s3:PySem.Str:=PySem.Str.ofString "out of range"
noncomputable def s5:PySem.Str:=PySem.Str.ofString "it does not stand there"
noncomputable def s7:PySem.Str:=PySem.Str.ofString "no such place"
noncomputable def s8:PySem.Str:=PySem.Str.ofString "another size"
noncomputable def sb:PySem.Str:=PySem.Str.ofString "it is kept in both"
noncomputable def A2:CS:=.raise 2 (PySem.Str.ofString "no such ladder")
noncomputable def A4:CS:=.raise 4 (PySem.Str.ofString "it is kept")
noncomputable def A5:CS:=.raise 5 (PySem.Str.ofString "it is not kept")
noncomputable def A6:CS:=.raise 6 (PySem.Str.ofString "no such level")
noncomputable def W:Nat:=300
noncomputable def D:TxD where
 fns:=[(0,⟨some "power",118,["width","level","found","turn"],2,jh⟩),
  (1,⟨some "thinned",125,["width","level","row","size","found","number"],3,i1⟩),
  (2,⟨some "tall",132,["width","high","before","number","many","size"],4,v9⟩),
  (3,⟨none,146,["self","width","high"],3,Ay A2⟩),
  (4,⟨none,153,["self","number","most"],3,rx (.raise 3 s3)⟩),
  (5,⟨none,160,["self","number","low","high","middle"],2,n5⟩),
  (6,⟨none,167,["self","place","behind","before","after"],3,nz⟩),
  (7,⟨none,174,["self","before","number","after","found","level","goes"],4,ry⟩),
  (8,⟨none,181,["self","number"],2,zk⟩),
  (9,⟨none,188,["self","number","place","pair","changes","level","goes"],2,zj A4⟩),
  (10,⟨none,195,["self","number","place","pair","changes","level","comes"],2,wa A5⟩),
  (11,⟨none,202,["self"],1,Do⟩),
  (12,⟨none,209,["self","level"],2,nf A6⟩),
  (13,⟨none,216,["self","level","number","there","at","here"],3,ng (.raise 5 s5)⟩),
  (14,⟨none,223,["self","number","level","here","found","beside"],2,xg⟩),
  (15,⟨none,230,["self","number","place"],2,xi⟩),
  (16,⟨none,237,["self","number","place"],2,xk⟩),
  (17,⟨none,244,["self","number"],2,xh⟩),
  (18,⟨none,251,["self","place"],2,xj (.raise 7 s7)⟩),
  (19,⟨none,258,["self","place","here","left","level","found","pair"],2,zi⟩),
  (20,⟨none,263,["self","low","high"],3,ou⟩),
  (21,⟨none,270,["self","low","high"],3,r9⟩),
  (22,⟨some "cut",284,["ladder","number","found","one"],2,I3 (.raise 3 s3)⟩),
  (23,⟨some "poured",291,["ladder","other","row","one"],2,Ax (.raise 8 s8) (.raise 4 sb)⟩),
  (25,⟨some "_law_cell_at",298,["_law_script","_law_k"],2,sd⟩),
  (26,⟨some "_law_number",305,["_law_cell","_law_limit"],2,ny⟩),
  (27,⟨some "_law_deed",312,["_law_ladder","_law_row","_law_cell","_law_limit","_law_number_here"],4,ue 26⟩),
  (28,⟨some "_law_told",317,["_law_ladder","_law_spot","_law_found","_law_level","_law_number_here","_law_row"],2,Fk⟩),
  (29,⟨some "_law_made",324,["_law_width","_law_high","_law_row","_law_ladder","_law_number_here"],3,Fl⟩),
  (30,⟨some "_law_refused",331,["_law_ladder","_law_other","e"],2,ul⟩),
  (31,⟨some "_law_refused_by_any",338,["_law_ladder","_law_number_here","_law_refused_here","e"],2,Cn⟩),
  (32,⟨some "_law_half",345,["_law_ladder","_law_row","_law_spot","_law_third","_law_number_here","_law_whole","_law_due"],3,Fp⟩),
  (33,⟨some "_law_goes_on",352,["_law_ladder","_law_part","_law_row","_law_rest","_law_spot","_law_left","_law_fresh"],5,Az⟩),
  (34,⟨some "_law_ends",359,["_law_ladder","_law_gone","_law_refused_here","_law_level"],2,Fq⟩),
  (35,⟨some "_law_again",364,["_law_ladder","_law_row","_law_spot","_law_fresh","_law_piece","_law_low","_law_high"],3,Co⟩),
  (36,⟨some "_law_woven",371,["_law_row","_law_whole","_law_size","_law_spot","_law_rows","_law_one","_law_two","_law_due"],4,Ck⟩),
  (37,⟨some "_law_is_there",376,["_law_ladder","_law_number_here","_law_levels","_law_told_here"],2,yk⟩),
  (38,⟨some "_law_by_turns",381,["_law_ladder","_law_row","_law_whole","_law_spot","_law_number_here","_law_held","_law_kept","_law_some"],4,Cl⟩),
  (39,⟨some "_law_mated",386,["_law_other","_law_own","_law_more"],2,Cm⟩),
  (40,⟨some "_law_cut",391,["_law_ladder","_law_row","_law_at","_law_spot","_law_width","_law_high","_law_whole","_law_rest","_law_left","_law_part","_law_due","_law_other","_law_own","_law_number_here"],4,Fo⟩)]
 cls:=[("Ladder",273),("LadderError",24),("BadSize",37),("OutOfRange",49),("Present",61),("Missing",73),("NoLevel",85),("NoPlace",97),("OtherSize",109)]
 attrs:=["width","high","limit","many","kept"]
 mths:=["__init__","need","lesser","neighbours","leaving","has","put","take","row","level","ahead","trail","below","above","place","at","way","stretch","counted"]
 methT:=[(1,4),(2,5),(3,6),(4,7),(5,8),(6,9),(7,10),(8,11),(9,12),(10,13),(11,14),(12,15),(13,16),(14,17),(15,18),(16,19),(17,20),(18,21)]
 init:=some 3
 sub:=fun c d=>c == d||d == 1
 exc:=true
noncomputable def G:Gl:=D.gl
theorem g.toLT:LT G (.raise 3 s3) A6 (.raise 5 s5):=⟨⟨rfl,rfl,rfl,rfl,rfl,rfl,rfl,rfl,rfl,rfl,rfl,rfl⟩,rfl,rfl,rfl,rfl,rfl⟩
theorem g.toLG:LG G (.raise 3 s3):=g.toLT.toLG
theorem g.ini:G.init 0=some 3:=rfl
theorem g.init:G.fns 3=some ⟨3,3,Ay A2⟩:=rfl
theorem g.put:G.fns 9=some ⟨2,7,zj A4⟩:=rfl
theorem g.take:G.fns 10=some ⟨2,7,wa A5⟩:=rfl
theorem g.row:G.fns 11=some ⟨1,1,Do⟩:=rfl
theorem g.trail:G.fns 14=some ⟨2,6,xg⟩:=rfl
theorem g.below:G.fns 15=some ⟨2,3,xi⟩:=rfl
theorem g.above:G.fns 16=some ⟨2,3,xk⟩:=rfl
theorem g.place:G.fns 17=some ⟨2,2,xh⟩:=rfl
theorem g.at_:G.fns 18=some ⟨2,2,xj (.raise 7 s7)⟩:=rfl
theorem g.way:G.fns 19=some ⟨2,7,zi⟩:=rfl
theorem g.str:G.fns 20=some ⟨3,3,ou⟩:=rfl
theorem g.cnt:G.fns 21=some ⟨3,3,r9⟩:=rfl
theorem g.cut:G.fns 22=some ⟨2,4,I3 (.raise 3 s3)⟩:=rfl
theorem g.pour:G.fns 23=some ⟨2,4,Ax (.raise 8 s8) (.raise 4 sb)⟩:=rfl
theorem g.cell:G.fns 25=some ⟨2,2,sd⟩:=rfl
theorem g.num:G.fns 26=some ⟨2,2,ny⟩:=rfl
theorem g.deed:G.fns 27=some ⟨4,5,ue 26⟩:=rfl
theorem g.told:G.fns 28=some ⟨2,6,Fk⟩:=rfl
theorem g.made:G.fns 29=some ⟨3,5,Fl⟩:=rfl
theorem g.refd:G.fns 30=some ⟨2,3,ul⟩:=rfl
theorem g.any:G.fns 31=some ⟨2,4,Cn⟩:=rfl
theorem g.half:G.fns 32=some ⟨3,7,Fp⟩:=rfl
theorem g.goesOn:G.fns 33=some ⟨5,7,Az⟩:=rfl
theorem g.ends:G.fns 34=some ⟨2,4,Fq⟩:=rfl
theorem g.again:G.fns 35=some ⟨3,7,Co⟩:=rfl
theorem g.woven:G.fns 36=some ⟨4,8,Ck⟩:=rfl
theorem g.isThere:G.fns 37=some ⟨2,4,yk⟩:=rfl
theorem g.turns:G.fns 38=some ⟨4,8,Cl⟩:=rfl
theorem g.mated:G.fns 39=some ⟨2,3,Cm⟩:=rfl
theorem g.lcut:G.fns 40=some ⟨4,14,Fo⟩:=rfl
theorem g.m6:G.meth 0 6=some 9:=rfl
theorem g.m7:G.meth 0 7=some 10:=rfl
theorem g.m8:G.meth 0 8=some 11:=rfl
theorem g.m11:G.meth 0 11=some 14:=rfl
theorem g.m12:G.meth 0 12=some 15:=rfl
theorem g.m13:G.meth 0 13=some 16:=rfl
theorem g.m14:G.meth 0 14=some 17:=rfl
theorem g.m15:G.meth 0 15=some 18:=rfl
theorem g.m16:G.meth 0 16=some 19:=rfl
theorem g.m17:G.meth 0 17=some 20:=rfl
theorem g.m18:G.meth 0 18=some 21:=rfl
theorem g.u88:G.sub 8 8=true:=rfl
theorem g.u48:G.sub 4 8=false:=rfl
theorem g.u44:G.sub 4 4=true:=rfl
theorem g.u81:G.sub 8 1=true:=rfl
theorem g.u41:G.sub 4 1=true:=rfl
theorem g.u33:G.sub 3 3=true:=rfl
theorem g.u31:G.sub 3 1=true:=rfl
theorem g.u77:G.sub 7 7=true:=rfl
theorem g.u55:G.sub 5 5=true:=rfl
theorem g.power:G.fns 0=some ⟨2,4,jh⟩:=rfl
theorem g.need:G.fns 4=some ⟨3,3,rx (.raise 3 s3)⟩:=rfl
theorem g.lesser:G.fns 5=some ⟨2,5,n5⟩:=rfl
theorem g.has:G.fns 8=some ⟨2,2,zk⟩:=rfl
theorem g.m1:G.meth 0 1=some 4:=rfl
theorem g.m2:G.meth 0 2=some 5:=rfl
theorem g.m5:G.meth 0 5=some 8:=rfl
theorem g.thinned:G.fns 1=some ⟨3,6,i1⟩:=rfl
theorem g.level:G.fns 12=some ⟨2,2,nf A6⟩:=rfl
theorem g.ahead:G.fns 13=some ⟨3,6,ng (.raise 5 s5)⟩:=rfl
theorem g.m9:G.meth 0 9=some 12:=rfl
theorem g.m10:G.meth 0 10=some 13:=rfl
structure Zz (w:Int) (H W:Nat):Prop where
 w2:2≤w
 w9:w≤9
 h1:1≤H
 h12:H≤12
 big:250≤W
structure La (h:HP) (i d k:Nat) (w:Int) (H:Nat) (K:List Int):Prop extends Lad h i d k w H K where
 kp:Kept w H K
 few:K.length≤99
section
variable {n:Nat}{h h' : HP}{i d k r i2 d2 k2:Nat}{w w2 N:Int}{H H2:Nat}{K K2:List Int}
theorem La.ok (L:La h i d k w H K) (z:Zz w H W):Ok w H K W:=⟨z.w2,z.w9,z.h1,z.h12,L.kp.srt,L.kp.rng,by have:=L.few; have:=z.big; exact Oz.o797 ‹_› this,by have:=L.few; exact Oz.o798 this⟩
theorem La.ex0 (L:La h i d k w H K) (x:Ex [] h h'):La h' i d k w H K:=⟨L.toLad.ext x.toExt Oz.g0 Oz.g0 Oz.g0,L.kp,L.few⟩
theorem La.exL (L:La h i d k w H K) (M:Lad h i2 d2 k2 w2 H2 K2) (x:Ex [d2,k2] h h') (nd:d≠d2) (nk:k≠k2):La h' i d k w H K:=by
 have a1:i≠d2:=fun e=>by have:=L.inst; rw [e,M.flds] at this; cases this
 have a2:i≠k2:=fun e=>by have:=L.inst; rw [e,M.list] at this; cases this
 have a3:d≠k2:=fun e=>by have:=L.flds; rw [e,M.list] at this; cases this
 have a4:k≠d2:=fun e=>by have:=L.list; rw [e,M.flds] at this; cases this
 exact⟨L.toLad.ext x.toExt (by simp [a1,a2]) (by simp [nd,a3]) (by simp [nk,a4]),L.kp,L.few⟩
theorem bu {vs:List AV}(e:h[r]?=some (.list vs)) (L:Lad h i d k w H K) (x:Ex [d,k] h h') (hk:r≠k):h'[r]?=some (.list vs) :=
 x.get e (by have:r≠d:=fun q=>(by rw [q,L.flds] at e; cases e); simp [this,hk])
theorem jy (z:Zz w H W) (L:La h i d k w H K) (few:K.length≤98) (h0:0≤N) (h1:N<w^H) (hn:N∉K) :
  Oz.E3 fun K' v h'=>ae G W (n+3) 9 [.ref i,.int N] h=.ok v h'∧La h' i d k w H K'∧(∀ x,x∈K'↔x=N∨x∈K)∧K'.length=K.length+1∧Ex [d,k] h h'∧Sta (PV w H K N) v h.length h'.length h' := by
 refine Oz.z fun ζ η=>?_
 obtain⟨p,T,T2,T3,h',hp,t1,t2,e,L',x,to⟩:=Iy (n:=n) g.toLG g.put L.toLad (L.ok z) h0 h1 hn
 refine η ?_
 have hm:∀ x,x∈K.take p++N::K.drop p↔x=N∨x∈K:=fun x=>by
  rw [Oz.g1,Oz.g6]
  constructor
  ·rintro(q | q | q)
   ·exact .inr (List.mem_of_mem_take q)
   ·exact .inl q
   ·exact .inr (List.mem_of_mem_drop q)
  ·rintro(q | q)
   ·exact .inr (.inl q)
   ·rw [← List.take_append_drop p K] at q
    exact(Oz.g1.mp q).imp id .inr
 refine⟨_,_,h',e,⟨L',L.kp.put hp hn h0 h1,by rw [Cf]; exact Oz.o799 few⟩,hm,Cf,Ex.lad L.toLad x,fun h'' k=>⟨p,hp,zt (mk:=fun l o=>[.int (l:Nat),.int N,o]) t1 t2 to (Oz.g3 _) h'' k⟩⟩
theorem js (z:Zz w H W) (L:La h i d k w H K) (hn:N∈K) :
  Oz.E3 fun K' v h'=>ae G W (n+3) 10 [.ref i,.int N] h=.ok v h'∧La h' i d k w H K'∧(∀ x,x∈K'↔x∈K∧x≠N)∧Ex [d,k] h h'∧Sta (TV w H K N) v h.length h'.length h' := by
 refine Oz.z fun ζ η=>?_
 obtain⟨p,hp⟩:=List.mem_iff_getElem?.mp hn
 obtain⟨T,T2,T3,h',t1,t2,e,L',x,to⟩:=E1 (n:=n) g.toLG g.take L.toLad (L.ok z) hp
 refine η ?_
 have hs:(K.eraseIdx p).Sublist K:=List.eraseIdx_sublist K p
 have hm:∀ x,x∈K.eraseIdx p↔x∈K∧x≠N:=fun x=>by
  rw [List.mem_eraseIdx_iff_getElem?]
  constructor
  ·rintro⟨j,nj,ej⟩
   refine⟨Oz.g16 ej,fun q=>?_⟩
   subst q
   exact nj ((jg L.kp.srt ej).same (jg L.kp.srt hp))
  ·rintro⟨q1,q2⟩
   obtain⟨j,ej⟩:=List.mem_iff_getElem?.mp q1
   exact⟨j,fun q=>q2 (by subst q; rw [hp] at ej; exact(Option.some.inj ej).symm),ej⟩
 exact⟨_,_,h',e,⟨L',⟨L.kp.srt.sublist hs,fun y hy=>L.kp.rng y (hs.subset hy)⟩,Oz.g2 hs.length_le L.few⟩,hm,Ex.lad L.toLad x,fun h'' k=>⟨p,hp,zt (mk:=fun l o=>[.int (l:Nat),o,.int N]) t1 t2 to (Oz.g3 _) h'' k⟩⟩
theorem ni (L:Lad h i d k w H K):ae G W (n+1) 11 [.ref i] h=.ok (.ref h.length) (h++[.list (K.map .int)]):=N0 g.row L
end
end N14
end Sk
set_option autoImplicit false
namespace Sk
namespace N14
section
variable {n:Nat}{h h' : HP}{i d k r i2 d2 k2 a b:Nat}{w N:Int}{H:Nat}{K K2:List Int}{l:LOC}{gr:Grd}
theorem B9 (hb:b<l.length):∃ t,l=l.set b t:=⟨l[b],(List.set_getElem_self hb).symm⟩
set_option tactic.hygienic true in
theorem uv (z:Zz w H W) (ab:b≠a) (la:l[a]?=some (some (.ref i))) (hb:b<l.length) (L:La h i d k w H K){xs:List Int}(nd:xs.Nodup) (rg:∀ x∈xs,0≤x∧x<w^H) (dj:∀ x∈xs,x∉K) (few:K.length+xs.length≤99)
  (gd:∀ h',Ex [d,k] h h'→okG gr h'=true):Oz.E3 fun K' t h'=>du gr (fun v ζ l' h'=>exec G (ae G W (n+3)) W (vt a b) (l'.set b (some v)) h') (xs.map .int) 0 l h=.next (l.set b t) h'∧La h' i d k w H K'∧(∀ x,x∈K'↔x∈K∨x∈xs)∧Ex [d,k] h h' := by
 have loop:=di (g:=gr) (step:=fun v ζ l' h'=>exec G (ae G W (n+3)) W (vt a b) (l'.set b (some v)) h')
  (fun j l' h'=>Oz.E2 fun K' t=>l'=l.set b t∧La h' i d k w H K'∧(∀ x,x∈K'↔x∈K∨x∈xs.take j)∧K'.length=K.length+j∧Ex [d,k] h h') (xs.map .int) 0 l h
  (by
   obtain⟨t,e⟩:=B9 hb
   exact⟨K,t,e,L,fun x=>by simp,rfl,Ex.refl⟩)
  (fun j v l' h' hj hI=>by
   rw [Nat.zero_add] at hI ⊢
   refine Oz.z fun ζ η=>?_
   obtain⟨K',t,rfl,L',mm,hl,ex⟩:=hI
   rw [Oz.g12] at hj
   obtain⟨N,hN,rfl⟩:=Oz.g11.mp hj
   have lt:=(Oz.g4.mp hN).1
   have hm:=Oz.g16 hN
   obtain⟨K2,v,h2,e,L2,m2,l2,x2,_⟩:=jy (n:=n) z L' (by exact Oz.o800 few hl lt) (rg N hm).1 (rg N hm).2 (fun q=>by
    rcases(mm N).mp q with q | q
    ·exact dj N hm q
    ·obtain⟨j',hj',ej⟩:=List.mem_iff_getElem.mp q
     rw [List.length_take] at hj'
     rw [List.getElem_take] at ej
     have:=(List.getElem_inj nd (h₀:=by exact Oz.o801 hj') (h₁:=lt)).mp (ej.trans (Oz.g4.mp hN).2.symm)
     exact Oz.o802 hj' this)
   refine η ?_
   refine⟨gd h' ex,_,h2,?_,K2,some (.int N),rfl,L2,fun x=>?_,by exact Oz.o803 hl l2,ex.trans x2⟩
   ·rw [List.set_set]
    exact af (ca (gf (aa ((Oz.g21 ab).trans la)) L'.inst g.m6 L'.flds (ag (aa (List.getElem?_set_self hb)) aj) e)) ah
   ·rw [m2,mm,List.take_add_one,hN,Oz.g1]
    simp
    constructor
    ·rintro(q | q | q)
     ·exact .inr (.inr q)
     ·exact .inl q
     ·exact .inr (.inl q)
    ·rintro(q | q | q)
     ·exact .inr (.inl q)
     ·exact .inr (.inr q)
     ·exact .inl q)
  (fun l' h' hI=>by
   refine Oz.z fun ζ1 η1=>?_
   obtain⟨_,_,_,_,_,_,ex⟩:=hI
   refine η1 ?_
   exact gd h' ex)
 refine Oz.z fun ζ2 η2=>?_
 obtain⟨l',h',e,K',t,rfl,L',mm,hl,ex⟩:=loop
 refine η2 ?_
 rw [Nat.zero_add,Oz.g13,List.take_length] at mm
 exact⟨K',t,h',e,L',mm,ex⟩
set_option tactic.hygienic true in
theorem Ea (z:Zz w H W) (ab:b≠a) (la:l[a]?=some (some (.ref i))) (hb:b<l.length) (L:La h i d k w H K){xs:List Int}(nd:xs.Nodup) (sb' : ∀ x∈xs,x∈K)
  (gd:∀ h',Ex [d,k] h h'→okG gr h'=true):Oz.E3 fun K' t h'=>du gr (fun v ζ l' h'=>exec G (ae G W (n+3)) W (wn a b) (l'.set b (some v)) h') (xs.map .int) 0 l h=.next (l.set b t) h'∧La h' i d k w H K'∧(∀ x,x∈K'↔x∈K∧x∉xs)∧Ex [d,k] h h' := by
 have loop:=di (g:=gr) (step:=fun v ζ l' h'=>exec G (ae G W (n+3)) W (wn a b) (l'.set b (some v)) h')
  (fun j l' h'=>Oz.E2 fun K' t=>l'=l.set b t∧La h' i d k w H K'∧(∀ x,x∈K'↔x∈K∧x∉xs.take j)∧Ex [d,k] h h') (xs.map .int) 0 l h
  (by
   obtain⟨t,e⟩:=B9 hb
   exact⟨K,t,e,L,fun x=>by simp,Ex.refl⟩)
  (fun j v l' h' hj hI=>by
   rw [Nat.zero_add] at hI ⊢
   refine Oz.z fun ζ η=>?_
   obtain⟨K',t,rfl,L',mm,ex⟩:=hI
   rw [Oz.g12] at hj
   obtain⟨N,hN,rfl⟩:=Oz.g11.mp hj
   have lt:=(Oz.g4.mp hN).1
   have hm:=Oz.g16 hN
   obtain⟨K2,v,h2,e,L2,m2,x2,_⟩:=js (n:=n) z L' ((mm N).mpr ⟨sb' N hm,fun q=>by
    obtain⟨j',hj',ej⟩:=List.mem_iff_getElem.mp q
    rw [List.length_take] at hj'
    rw [List.getElem_take] at ej
    have:=(List.getElem_inj nd (h₀:=by exact Oz.o801 hj') (h₁:=lt)).mp (ej.trans (Oz.g4.mp hN).2.symm)
    exact Oz.o802 hj' this⟩)
   refine η ?_
   refine⟨gd h' ex,_,h2,?_,K2,some (.int N),rfl,L2,fun x=>?_,ex.trans x2⟩
   ·rw [List.set_set]
    exact af (ca (gf (aa ((Oz.g21 ab).trans la)) L'.inst g.m7 L'.flds (ag (aa (List.getElem?_set_self hb)) aj) e)) ah
   ·rw [m2,mm,List.take_add_one,hN,Oz.g1]
    simp [and_assoc])
  (fun l' h' hI=>by
   refine Oz.z fun ζ1 η1=>?_
   obtain⟨_,_,_,_,_,ex⟩:=hI
   refine η1 ?_
   exact gd h' ex)
 refine Oz.z fun ζ2 η2=>?_
 obtain⟨l',h',e,K',t,rfl,L',mm,ex⟩:=loop
 refine η2 ?_
 rw [Nat.zero_add,Oz.g13,List.take_length] at mm
 exact⟨K',t,h',e,L',mm,ex⟩
theorem items_rev {q:Nat}{vs:List AV}(hq:h[q]?=some (.list vs)):bp .rev [.ref q] h=some (vs.reverse,some (q,.list vs)):=by
 show(match h[q]? with | some (.list vs)=>some (vs.reverse,some (q,AO.list vs)) | _=>Option.none)=_
 rw [hq]
theorem iz (s:K.Pairwise (·<·)):K.Nodup:=s.imp fun q=>Int.ne_of_lt q
theorem n9 {ea eb:CE}(z:Zz w H W) (ha:ev G (ae G W (n+2)) ea l h=.ok (.int w) h) (hb:ev G (ae G W (n+2)) eb l h=.ok (.int (H:Nat)) h) :
  ∃ h',ev G (ae G W (n+2)) (.new 0 (.cons ea (.cons eb .nil))) l h=.ok (.ref (h.length+1)) h'∧La h' (h.length+1) h.length (h.length+2) w H []∧Ex [] h h' := by
 refine Oz.z fun ζ η=>?_
 obtain⟨h',e,L,x,_⟩:=Lz (W:=W) (n:=n) (h:=h) g.power g.init z.w2 z.w9 z.h1 z.h12
 refine η ?_
 exact⟨h',Ob g.ini (ag ha (ag hb aj)) e,⟨L,⟨.nil,fun y hy=>absurd hy Oz.g0⟩,Nat.zero_le _⟩,Ex.of x⟩
theorem ig (z:Zz w H W) (hr:h[r]?=some (.list (K.map .int))) (kp:Kept w H K) (few:K.length≤99) :
  Oz.E4 fun i' d' k' h'=>ae G W (n+4) 29 [.int w,.int (H:Nat),.ref r] h=.ok (.ref i') h'∧La h' i' d' k' w H K∧Ex [] h h'∧h.length≤d'∧h.length≤k' := by
 refine Oz.z fun ζ η=>?_
 obtain⟨h1,e1,L1,x1⟩:=n9 (h:=h) (n:=n+1) (l:=[some (.int w),some (.int (H:Nat)),some (.ref r),Option.none,Option.none]) (ea:=.loc 0) (eb:=.loc 1) z (aa rfl) (aa rfl)
 have hr1:=x1.get hr Oz.g0
 have fr:∀ t∈[h.length,h.length+2],t∈([]:List Nat)∨h.length≤t:=fun t ht=>.inr (by simp at ht; exact Oz.o804 ht)
 have hlt:=(Oz.g4.mp hr).1
 obtain⟨K',t,h2,e2,L2,mm,x2⟩:=uv (n:=n) (a:=3) (b:=4) (gr:=some (r,.list (K.map .int))) (l:=[some (.int w),some (.int (H:Nat)),some (.ref r),some (.ref (h.length+1)),Option.none]) z (by decide) rfl (show 4<5 by decide) L1 (xs:=K.reverse) ((List.reverse_perm K).symm.nodup (iz kp.srt)) (fun x hx=>kp.rng x (List.mem_reverse.mp hx)) (fun ζ ζ=>Oz.g0) (by simpa using few)
  (fun h' x=>b4 (x.get hr1 (by simp; exact Oz.o805 hlt)))
 have hK:K'=K:=gu L2.kp.srt kp.srt fun x=>by rw [mm]; simp
 subst hK
 refine η ?_
 rw [List.map_reverse] at e2
 exact⟨_,_,_,h2,bj g.made rfl (af (am e1) (af (ft (es1 rfl) (items_rev hr1) e2) (av (bi (aa rfl))))),L2,x1.fresh x2 fr,Oz.g3 _,Nat.le_add_right _ _⟩
end
end N14
end Sk
set_option autoImplicit false
namespace Sk
namespace N14
section
variable {n:Nat}{h h' : HP}{i d k r i2 d2 k2 a b:Nat}{w w2 N c:Int}{H H2:Nat}{K K2:List Int}{l:LOC}{gr:Grd}
theorem qh {j:Nat}(hN:K[j]?=some N) (x:Int):x∈K.take (j+1)↔x∈K.take j∨x=N:=by
 rw [List.take_add_one,hN,Oz.g1]; simp
theorem Hm {j:Nat}(s:K.Pairwise (·<·)) (hN:K[j]?=some N):N∉K.take j:=fun q=>by
 obtain⟨j',hj',ej⟩:=List.mem_iff_getElem.mp q
 rw [List.length_take] at hj'
 rw [List.getElem_take] at ej
 have:=(jg s (Oz.g4.mpr ⟨by exact Oz.o801 hj',ej⟩)).same (jg s hN)
 exact Oz.o802 hj' this
theorem Iz (z:Zz w H W) (L:La h i d k w H K) (c0:0≤c) (c1:c≤w^H):Oz.E4 fun i' d' k' h'=>ae G W (n+4) 22 [.ref i,.int c] h=.ok (.ref i') h'∧La h' i d k w H (K.filter fun x=>decide (x<c))∧La h' i' d' k' w H (K.filter fun x=>decide (c≤x))∧Ex [d,k] h h'∧h.length≤d'∧h.length≤k' := by
 have t:=jw (G:=G) (cl:=ae G W (n+3)) (l:=[some (.ref i),some (.int c),Option.none,Option.none]) (h:=h) (h1:=h) (h2:=h) (i:=0) (j:=c) (k:=w^H) (a:=.int 0) (b:=.loc 1) (c:=.attr (.loc 0) 2) ai (aa rfl) (L.ea rfl rfl)
 rw [decide_eq_true c0,decide_eq_true c1] at t
 refine Oz.z fun ζ η=>?_
 obtain⟨h1,e1,M1,x1⟩:=n9 (h:=h) (n:=n+1) (l:=[some (.ref i),some (.int c),Option.none,Option.none]) (ea:=.attr (.loc 0) 0) (eb:=.attr (.loc 0) 1) z (L.ea rfl rfl) (L.ea rfl rfl)
 have L1:=L.ex0 x1
 obtain⟨h2,hh2⟩:∃ h2:HP,h2=h1++[.list (K.map .int)]:=⟨_,rfl⟩
 have x2:Ex [] h1 h2:=hh2 ▸ Ex.app
 have er:=ni (n:=n+2) L1.toLad
 rw [← hh2] at er
 have q2:h2[h1.length]?=some (.list (K.map .int)):=by rw [hh2]; exact ak
 have ld:=au L.flds
 have lk:=au L.list
 have hM:=(Oz.g4.mp M1.list).1
 have loop:=di (g:=some (h1.length,.list (K.map .int))) (step:=fun v ζ l' h'=>exec G (ae G W (n+3)) W Nn (l'.set 3 (some v)) h')
  (fun j l' h'=>Oz.E3 fun P Q t=>l'=[some (.ref i),some (.int c),some (.ref (h.length+1)),t]∧La h' i d k w H P∧La h' (h.length+1) h.length (h.length+2) w H Q∧(∀ x,x∈P↔x∈K∧¬ (x∈K.take j∧c≤x))∧(∀ x,x∈Q↔x∈K.take j∧c≤x)∧Q.length≤j∧Ex [d,k,h.length,h.length+2] h2 h') (K.map .int) 0 [some (.ref i),some (.int c),some (.ref (h.length+1)),Option.none] h2
  ⟨K,[],Option.none,rfl,L1.ex0 x2,M1.ex0 x2,fun x=>by simp,fun x=>by simp,Oz.g3 _,Ex.refl⟩
  (fun j v l' h' hj hI=>by
   rw [Nat.zero_add] at hI ⊢
   refine Oz.z fun ζ1 η1=>?_
   obtain⟨P,Q,t,rfl,LP,LQ,mP,mQ,lQ,ex⟩:=hI
   rw [Oz.g12] at hj
   obtain⟨N,hN,rfl⟩:=Oz.g11.mp hj
   refine η1 ?_
   have lt:=(Oz.g4.mp hN).1
   have hm:=Oz.g16 hN
   have nt:=Hm L.kp.srt hN
   have og:okG (some (h1.length,.list (K.map .int))) h'=true:=b4 (ex.get q2 (by simp; exact Oz.o806 ld lk hM))
   have tc:ev G (ae G W (n+3)) (.cmp .ge (.loc 3) (.loc 1)) [some (.ref i),some (.int c),some (.ref (h.length+1)),some (.int N)] h'=.ok (.bool (decide (c≤N))) h' := az (aa rfl) (aa rfl) Ik
   by_cases hc:c≤N
   ·rw [decide_eq_true hc] at tc
    refine Oz.z fun ζ2 η2=>?_
    obtain⟨P2,v1,h3,e3,LP3,mP3,x3,_⟩:=js (n:=n) z LP ((mP N).mpr ⟨hm,fun q=>nt q.1⟩)
    have LQ3:=LQ.exL LP.toLad x3 (by exact Oz.o173 ld) (by exact Oz.o807 lk)
    obtain⟨Q2,v2,h4,e4,LQ4,mQ4,lQ4,x4,_⟩:=jy (n:=n) z LQ3 (by have:=L.few; exact Oz.o808 lQ lt this) (L.kp.rng N hm).1 (L.kp.rng N hm).2 (fun q=>nt ((mQ N).mp q).1)
    refine η2 ?_
    refine⟨og,_,h4,af (be tc (af (ca (LP.em rfl g.m7 (es1 rfl) e3)) (af (ca (LQ3.em rfl g.m6 (es1 rfl) e4)) ah))) ah,P2,Q2,_,rfl,LP3.exL LQ3.toLad x4 (by exact Oz.o167 ld) (by exact Oz.o809 lk),LQ4,fun x=>?_,fun x=>?_,by exact Oz.o810 lQ lQ4,ex.trans ((x3.mono (by simp)).trans (x4.mono (by simp)))⟩
    ·rw [mP3,mP,qh hN]
     constructor
     ·rintro⟨⟨q1,q2⟩,q3⟩
      exact⟨q1,fun q=>q.1.elim (fun u=>q2 ⟨u,q.2⟩) q3⟩
     ·rintro⟨q1,q2⟩
      exact⟨⟨q1,fun q=>q2 ⟨.inl q.1,q.2⟩⟩,fun q=>q2 ⟨.inr q,q ▸ hc⟩⟩
    ·rw [mQ4,mQ,qh hN]
     constructor
     ·rintro(rfl | ⟨q1,q2⟩)
      ·exact⟨.inr rfl,hc⟩
      ·exact⟨.inl q1,q2⟩
     ·rintro⟨q1 | q1,q2⟩
      ·exact .inr ⟨q1,q2⟩
      ·exact .inl q1
   ·rw [decide_eq_false hc] at tc
    refine⟨og,_,h',af (ap tc ah) ah,P,Q,_,rfl,LP,LQ,fun x=>?_,fun x=>?_,by exact Oz.o439 lQ,ex⟩
    ·rw [mP,qh hN]
     constructor
     ·rintro⟨q1,q2⟩
      exact⟨q1,fun q=>q.1.elim (fun u=>q2 ⟨u,q.2⟩) (fun u=>hc (u ▸ q.2))⟩
     ·rintro⟨q1,q2⟩
      exact⟨q1,fun q=>q2 ⟨.inl q.1,q.2⟩⟩
    ·rw [mQ,qh hN]
     constructor
     ·rintro⟨q1,q2⟩
      exact⟨.inl q1,q2⟩
     ·rintro⟨q1 | q1,q2⟩
      ·exact⟨q1,q2⟩
      ·exact absurd (q1 ▸ q2) hc)
  (fun l' h' hI=>by
   refine Oz.z fun ζ3 η3=>?_
   obtain⟨_,_,_,_,_,_,_,_,_,ex⟩:=hI
   refine η3 ?_
   exact b4 (ex.get q2 (by simp; exact Oz.o806 ld lk hM)))
 obtain⟨l',h',e,P,Q,t',rfl,LP,LQ,mP,mQ,_,ex⟩:=loop
 refine η ?_
 rw [Nat.zero_add,Oz.g13,List.take_length] at mP mQ
 have hP:P=K.filter fun x=>decide (x<c):=gu LP.kp.srt (L.kp.srt.sublist List.filter_sublist) fun x=>by
  rw [mP,Oz.g25,decide_eq_true_iff]
  exact⟨fun q=>⟨q.1,Int.not_le.mp fun u=>q.2 ⟨q.1,u⟩⟩,fun q=>⟨q.1,fun u=>absurd u.2 (Int.not_le.mpr q.2)⟩⟩
 have hQ:Q=K.filter fun x=>decide (c≤x):=gu LQ.kp.srt (L.kp.srt.sublist List.filter_sublist) fun x=>by
  rw [mQ,Oz.g25,decide_eq_true_iff]
 subst hP; subst hQ
 exact⟨_,_,_,h',bj g.cut rfl (af (ap (dw t) ah) (af (am e1) (af (ft (ag (L1.em rfl g.m8 aj er) aj) (bw q2) e) (av (bi (aa rfl)))))),LP,LQ,(x1.trans x2).fresh ex (fun t ht=>by simp at ht ⊢; exact Oz.o811 ht),Oz.g3 _,Nat.le_add_right _ _⟩
theorem Mb (L:La h i d k w H K) (hv:c<0∨w^H<c):ae G W (n+1) 22 [.ref i,.int c] h=.exc 3 h:=by
 have t:=jw (G:=G) (cl:=ae G W n) (l:=[some (.ref i),some (.int c),Option.none,Option.none]) (h:=h) (h1:=h) (h2:=h) (i:=0) (j:=c) (k:=w^H) (a:=.int 0) (b:=.loc 1) (c:=.attr (.loc 0) 2) ai (aa rfl) (L.ea rfl rfl)
 have e:(decide (0≤c)&&decide (c≤w^H))=false:=by
  rcases hv with q | q
  ·rw [decide_eq_false (Int.not_le.mpr q)]; rfl
  ·rw [decide_eq_false (Int.not_le.mpr q),Bool.and_false]
 rw [e] at t
 exact qe g.cut rfl (de (be (dw t) (de o8)))
end
end N14
end Sk
set_option autoImplicit false
namespace Sk
namespace N14
section
variable {n:Nat}{h h' : HP}{i d k r i2 d2 k2 a b:Nat}{w w2 N c:Int}{H H2:Nat}{K K2:List Int}{l:LOC}{gr:Grd}
noncomputable def qu (Y:CS):CS:=(.seq (.ite (.meth (.loc 0) 5 (.cons (.loc 3) .nil)) (.seq Y .skip) .skip) .skip)
set_option tactic.hygienic true in
theorem A9 {x1 x2:Option AV}{Y:CS}(L:La h i d k w H K) (og:okG gr h=true):∀ (xs:List Int) (j:Nat) (t:Option AV),(∀ x∈xs,0≤x∧x<w^H)→(∀ x∈xs,x∉K) →
  ∃ t',du gr (fun v ζ l' h'=>exec G (ae G W (n+2)) W (qu Y) (l'.set 3 (some v)) h') (xs.map .int) j [some (.ref i),x1,x2,t] h=.next [some (.ref i),x1,x2,t'] h
 | [],j,t,_,_=>⟨t,if_pos og⟩
 | x::xs,j,t,rg,dj=>by
  obtain⟨t',e⟩:=A9 L og xs (j+1) (some (.int x)) (fun y hy=>rg y (.tail _ hy)) (fun y hy=>dj y (.tail _ hy))
  have hs:=ua (W:=W) (n:=n) (v:=x) g.has g.need g.m1 L.toLad (rg x (.head _)).1 (rg x (.head _)).2
  rw [decide_eq_false (dj x (.head _))] at hs
  refine⟨t',?_⟩
  show(if okG gr h then (exec G (ae G W (n+2)) W (qu Y) [some (.ref i),x1,x2,some (.int x)] h).thn _ else .err)=_
  have ex:exec G (ae G W (n+2)) W (qu Y) [some (.ref i),x1,x2,some (.int x)] h=.next [some (.ref i),x1,x2,some (.int x)] h:=af (ap (L.em rfl g.m5 (es1 rfl) hs) ah) ah
  rw [if_pos og,ex]
  exact e
set_option tactic.hygienic true in
theorem yr {x1 x2:Option AV}(L:La h i d k w H K) (og:okG gr h=true):∀ (xs:List Int) (j:Nat) (t:Option AV),(∀ x∈xs,0≤x∧x<w^H)→(∃ x∈xs,x∈K) →
  ∃ l',du gr (fun v ζ l' h'=>exec G (ae G W (n+2)) W (qu (.raise 4 sb)) (l'.set 3 (some v)) h') (xs.map .int) j [some (.ref i),x1,x2,t] h=.exc 4 l' h
 | [],j,t,_,hx=>by obtain⟨x,q,_⟩:=hx; cases q
 | x::xs,j,t,rg,hx=>by
  have hs:=ua (W:=W) (n:=n) (v:=x) g.has g.need g.m1 L.toLad (rg x (.head _)).1 (rg x (.head _)).2
  have u:du gr (fun v ζ l' h'=>exec G (ae G W (n+2)) W (qu (.raise 4 sb)) (l'.set 3 (some v)) h') ((x::xs).map .int) j [some (.ref i),x1,x2,t] h=(exec G (ae G W (n+2)) W (qu (.raise 4 sb)) [some (.ref i),x1,x2,some (.int x)] h).thn fun l' h'=>du gr (fun v ζ l' h'=>exec G (ae G W (n+2)) W (qu (.raise 4 sb)) (l'.set 3 (some v)) h') (xs.map .int) (j+1) l' h' := if_pos og
  rw [u]
  by_cases q:x∈K
  ·rw [decide_eq_true q] at hs
   have ex:exec G (ae G W (n+2)) W (qu (.raise 4 sb)) [some (.ref i),x1,x2,some (.int x)] h=.exc 4 [some (.ref i),x1,x2,some (.int x)] h:=de (be (L.em rfl g.m5 (es1 rfl) hs) (de o8))
   rw [ex]
   exact⟨_,rfl⟩
  ·rw [decide_eq_false q] at hs
   have ex:exec G (ae G W (n+2)) W (qu (.raise 4 sb)) [some (.ref i),x1,x2,some (.int x)] h=.next [some (.ref i),x1,x2,some (.int x)] h:=af (ap (L.em rfl g.m5 (es1 rfl) hs) ah) ah
   rw [ex]
   exact yr L og xs (j+1) (some (.int x)) (fun y hy=>rg y (.tail _ hy)) (by
    obtain⟨y,hy,yK⟩:=hx
    rcases Oz.g6.mp hy with rfl | hy
    ·exact absurd yK q
    ·exact⟨y,hy,yK⟩)
theorem Ah (L:La h i d k w H K) (M:La h i2 d2 k2 w H K2):ev G (ae G W (n+3)) (.or (.cmp .ne (.attr (.loc 0) 0) (.attr (.loc 1) 0)) (.cmp .ne (.attr (.loc 0) 1) (.attr (.loc 1) 1))) [some (.ref i),some (.ref i2),Option.none,Option.none] h=.ok (.bool false) h:=by
 have a:=az (G:=G) (cl:=ae G W (n+3)) (l:=[some (.ref i),some (.ref i2),Option.none,Option.none]) (h:=h) (fb (n:=0) (a:=.loc 0) (aa rfl) L.inst L.flds rfl) (fb (n:=0) (a:=.loc 1) (aa rfl) M.inst M.flds rfl) (qx (i:=w) (j:=w))
 have b:=az (G:=G) (cl:=ae G W (n+3)) (l:=[some (.ref i),some (.ref i2),Option.none,Option.none]) (h:=h) (fb (n:=1) (a:=.loc 0) (aa rfl) L.inst L.flds rfl) (fb (n:=1) (a:=.loc 1) (aa rfl) M.inst M.flds rfl) (qx (i:=(H:Int)) (j:=(H:Int)))
 rw [decide_eq_true rfl] at a b
 exact eu a b
theorem qp (z:Zz w H W) (L:La h i d k w H K) (M:La h i2 d2 k2 w H K2) (dj:∀ x∈K2,x∉K) (few:K.length+K2.length≤99):Oz.E2 fun K' h'=>ae G W (n+4) 23 [.ref i,.ref i2] h=.ok .none h'∧La h' i d k w H K'∧(∀ x,x∈K'↔x∈K∨x∈K2)∧Ex [d,k] h h' := by
 refine Oz.z fun ζ η=>?_
 obtain⟨h1,hh1⟩:∃ h1:HP,h1=h++[.list (K2.map .int)]:=⟨_,rfl⟩
 have x1:Ex [] h h1:=hh1 ▸ Ex.app
 have er:=ni (n:=n+2) M.toLad
 rw [← hh1] at er
 have q1:h1[h.length]?=some (.list (K2.map .int)):=by rw [hh1]; exact ak
 have L1:=L.ex0 x1
 have ld:=au L.flds
 have lk:=au L.list
 obtain⟨t,e2⟩:=A9 (n:=n+1) (x1:=some (.ref i2)) (x2:=some (.ref h.length)) (Y:=.raise 4 sb) (gr:=some (h.length,.list (K2.map .int))) L1 (b4 q1) K2 0 Option.none M.kp.rng dj
 obtain⟨K',t',h',e3,L3,mm,x3⟩:=uv (n:=n) (a:=0) (b:=3) (gr:=some (h.length,.list (K2.map .int))) (l:=[some (.ref i),some (.ref i2),some (.ref h.length),t]) z (by decide) rfl (show 3<4 by decide) L1 (xs:=K2) (iz M.kp.srt) M.kp.rng dj few
  (fun h' x=>b4 (x.get q1 (by simp; exact Oz.o796 ld lk)))
 refine η ?_
 exact⟨K',h',s9 g.pour rfl (af (ap (Ah L M) ah) (af (am (M.em rfl g.m8 aj er)) (af (ft (es1 rfl) (bw q1) e2) (af (ft (es1 rfl) (bw q1) e3) ah)))),L3,mm,x1.fresh x3 (fun t ht=>.inl ht)⟩
theorem oo (L:La h i d k w H K) (M:La h i2 d2 k2 w H K2) (hx:∃ x∈K2,x∈K):∃ h',ae G W (n+4) 23 [.ref i,.ref i2] h=.exc 4 h'∧Ex [] h h' := by
 obtain⟨h1,hh1⟩:∃ h1:HP,h1=h++[.list (K2.map .int)]:=⟨_,rfl⟩
 have x1:Ex [] h h1:=hh1 ▸ Ex.app
 have er:=ni (n:=n+2) M.toLad
 rw [← hh1] at er
 have q1:h1[h.length]?=some (.list (K2.map .int)):=by rw [hh1]; exact ak
 obtain⟨l',e2⟩:=yr (n:=n+1) (x1:=some (.ref i2)) (x2:=some (.ref h.length)) (gr:=some (h.length,.list (K2.map .int))) (L.ex0 x1) (b4 q1) K2 0 Option.none M.kp.rng hx
 exact⟨h1,qe g.pour rfl (af (ap (Ah L M) ah) (af (am (M.em rfl g.m8 aj er)) (de (ft (es1 rfl) (bw q1) e2)))),x1⟩
theorem ye (L:La h i d k w H K) (M:La h i2 d2 k2 w2 H2 K2) (hx:w≠w2∨H≠H2):ae G W (n+1) 23 [.ref i,.ref i2] h=.exc 8 h:=by
 have a:=az (G:=G) (cl:=ae G W n) (l:=[some (.ref i),some (.ref i2),Option.none,Option.none]) (h:=h) (fb (n:=0) (a:=.loc 0) (aa rfl) L.inst L.flds rfl) (fb (n:=0) (a:=.loc 1) (aa rfl) M.inst M.flds rfl) (qx (i:=w) (j:=w2))
 have b:=az (G:=G) (cl:=ae G W n) (l:=[some (.ref i),some (.ref i2),Option.none,Option.none]) (h:=h) (fb (n:=1) (a:=.loc 0) (aa rfl) L.inst L.flds rfl) (fb (n:=1) (a:=.loc 1) (aa rfl) M.inst M.flds rfl) (qx (i:=(H:Int)) (j:=(H2:Int)))
 have e:ev G (ae G W n) (.or (.cmp .ne (.attr (.loc 0) 0) (.attr (.loc 1) 0)) (.cmp .ne (.attr (.loc 0) 1) (.attr (.loc 1) 1))) [some (.ref i),some (.ref i2),Option.none,Option.none] h=.ok (.bool true) h:=by
  by_cases q:w=w2
  ·rw [decide_eq_true q] at a
   have ne:¬ ((H:Int)=(H2:Int)):=fun u=>(hx.resolve_left (fun v=>v q)) (Int.ofNat.inj u)
   rw [decide_eq_false ne] at b
   exact eu a b
  ·rw [decide_eq_false q] at a
   exact Ds a
 exact qe g.pour rfl (de (be e (de o8)))
theorem wt {x y:AV}(e:ae G W n 23 [x,y] h=.ok .none h'):ae G W (n+1) 30 [x,y] h=.ok (.int 0) h' :=
 bj g.refd rfl (af (Nu (af (ca (ax (es2 rfl rfl) e)) ah)) (av (bi ai)))
theorem tz {x y:AV}(e:ae G W n 23 [x,y] h=.exc 4 h') (ex:Ex [] h h'):∃ h'',ae G W (n+1) 30 [x,y] h=.ok (.int 2) h''∧Ex [] h h'' :=
 ⟨h'++[.exc 4],bj g.refd rfl (av (qf (de (om (ax (es2 rfl rfl) e))) (Nd g.u48 (Nf g.u44 (av (bi (aq ai (b7 (b5 (Cv (c:=4) (aa rfl) ak g.u41) (Bg (c:=4) (aa rfl) ak)) rfl) (lj rfl)))))))),ex.trans Ex.app⟩
theorem Ca {x y:AV}(e:ae G W n 23 [x,y] h=.exc 8 h):∃ h'',ae G W (n+1) 30 [x,y] h=.ok (.int 1) h''∧Ex [] h h'' :=
 ⟨h++[.exc 8],bj g.refd rfl (av (qf (de (om (ax (es2 rfl rfl) e))) (Nf g.u88 (av (bi (b7 (b5 (Cv (c:=8) (aa rfl) ak g.u81) (Bg (c:=8) (aa rfl) ak)) rfl)))))),Ex.app⟩
theorem Cc (L:La h i d k w H K) (hv:c<0∨w^H<c):∃ h',ae G W (n+2) 31 [.ref i,.int c] h=.ok (.bool true) h'∧Ex [] h h' := by
 have e:=Mb (n:=n) L hv
 exact⟨h++[.exc 3],bj g.any rfl (af (am ai) (af (qf (de (om (ax (es2 rfl rfl) e))) (wf g.u33 (af (am (aq (aa rfl) ai b8)) ah)))
  (af (qf (de (om (ax (es2 rfl rfl) e))) (Oa g.u31 (af (am (aq (aa rfl) (b7 (Bg (c:=3) (aa rfl) ak) rfl) b8)) ah))) (av (bi (az (aa rfl) ai rfl)))))),Ex.app⟩
end
end N14
end Sk
set_option autoImplicit false
namespace Sk
namespace N14
noncomputable def nxt (w:Int) (K:List Int) (lv:Nat) (N:Int):Option Int:=(ay (w^lv) Option.none K)[(ay (w^lv) Option.none K).idxOf N+1]?
noncomputable def AH (w:Int) (K:List Int) (lv:Nat) (N:Int):Vw:=fun h v=>Oz.E3 fun q p gp=>v=.ref q∧h[q]?=some (.tup [oav (nxt w K lv N),.int gp])∧Pl K N p∧(∀ y,nxt w K lv N=some y→∃ p',Pl K y p'∧gp=(p' : Int) - p)∧(nxt w K lv N=Option.none→gp=(K.length:Int) - p)
noncomputable def PT (w:Int) (H:Nat) (K:List Int) (N:Int):Vw:=fun h v=>∃ q,v=.ref q∧(((∀ x,K.head?=some x→N<x)∧h[q]?=some (.list []))∨Oz.E3 fun x ps ts=>K.head?=some x∧x≤N∧Wlk w N K (H,x) ps∧PathAt h q ts ps)
theorem Og {w:Int}{K:List Int}{lv:Nat}{N:Int}:Dt 2 (AH w K lv N):=fun h v v' a b m=>by
 refine Oz.z fun ζ η=>?_
 obtain⟨q,p,g,rfl,e,hp,f1,f2⟩:=a
 obtain⟨q',p',g',rfl,e',hp',f1',f2'⟩:=b
 refine η ?_
 cases hp.same hp'
 have hg:g=g' := by
  cases c:nxt w K lv N with
  | none=>rw [f2 c,f2' c]
  | some y =>
   refine Oz.z fun ζ1 η1=>?_
   obtain⟨u,hu,rfl⟩:=f1 y c
   obtain⟨u',hu',rfl⟩:=f1' y c
   refine η1 ?_
   rw [hu.same hu']
 subst hg
 refine u9 (m:=m+1) e e' rfl fun j x y hx hy=>?_
 rw [hx] at hy; cases hy
 match j,hx with
 | 0,hx=>cases hx; exact f5 _
 | 1,hx=>cases hx; exact f5 (some _)
theorem Dv {w:Int}{H:Nat}{K:List Int}{N:Int}:Dt 3 (PT w H K N):=fun h v v' a b m=>by
 refine Oz.z fun ζ η=>?_
 obtain⟨q,rfl,a⟩:=a
 obtain⟨q',rfl,b⟩:=b
 refine η ?_
 rcases a with ⟨n1,e⟩ | ⟨x,ps,ts,hx,le,wl,pa⟩
 ·rcases b with ⟨_,e'⟩ | ⟨x,ps,ts,hx,le,_⟩
  ·exact n8 (m:=m+2) e e' rfl fun j x y hx=>by cases hx
  ·exact absurd (n1 x hx) (Int.not_lt.mpr le)
 ·rcases b with ⟨n1,_⟩ | ⟨x',ps',ts',hx',_,wl',pa'⟩
  ·exact absurd (n1 x hx) (Int.not_lt.mpr le)
  ·rw [hx] at hx'; cases hx'
   cases wl.det wl'
   refine n8 (m:=m+2) pa.list pa'.list (by rw [Oz.g13,Oz.g13,pa.len,pa'.len]) fun j x y hx hy=>?_
   rw [Oz.g12] at hx hy
   refine Oz.z fun ζ1 η1=>?_
   obtain⟨t,ht,rfl⟩:=Oz.g11.mp hx
   obtain⟨t',ht',rfl⟩:=Oz.g11.mp hy
   refine η1 ?_
   have lt:j<ps.length:=by rw [← pa.len]; exact(Oz.g4.mp ht).1
   refine u9 (m:=m+1) (pa.tups j t _ ht (Oz.g10 lt)) (pa'.tups j t' _ ht' (Oz.g10 lt)) rfl fun j' x y hx hy=>?_
   rw [hx] at hy; cases hy
   match j',hx with
   | 0,hx=>cases hx; exact f5 (some _)
   | 1,hx=>cases hx; exact f5 (some _)
noncomputable def lvV (w:Int) (K:List Int) (sp:Int) (lv:Nat):List Vw:=IL (ay (w^lv) Option.none K)::if (lv:Int)=sp then [LV ((ay (w^lv) Option.none K).map (AH w K lv))] else []
noncomputable def spV (w:Int) (H:Nat) (K:List Int) (x:Int):List Vw:=[LV [One (.bool (decide (x∈K))),One (oav (K.reverse.filter fun y=>decide (y≤x)).head?),One (oav (K.filter fun y=>decide (x≤y)).head?),One (.int ((K.filter fun y=>decide (y<x)).length:Nat))],PT w H K x]
noncomputable def btw (K:List Int) (lo hi:Int):List Int:=K.filter fun x=>decide (lo≤x)&&decide (x<hi)
noncomputable def enV (w:Int) (H:Nat) (K:List Int) (s0:Int):List Vw:=if K=[] then [] else [LV [One (.int (K.getD (s0.fmod K.length).toNat 0)),PT w H K (K.getD (s0.fmod K.length).toNat 0)],LV [One (.int (K.getD 0 0)),One (.int (K.getD (K.length - 1) 0))]]
noncomputable def baV (w:Int) (H:Nat) (K:List Int):List Vw:=[One (.int w),One (.int (H:Nat)),One (.int (w^H)),One (.int (K.length:Nat))]
noncomputable def toV (w:Int) (H:Nat) (K:List Int) (s0 s1 s2:Int):List Vw:=baV w H K++(List.range (H+1)).flatMap (lvV w K (s0.fmod (H+1)))++[s1,s2].flatMap (spV w H K)++[LV [IL K,IL (btw K s1 s2),One (.int ((btw K s2 s1).length:Nat))]]++enV w H K s0
noncomputable def TO (w:Int) (H:Nat) (K:List Int) (s0 s1 s2:Int):Vw:=LV (toV w H K s0 s1 s2)
theorem I7 {w:Int}{H:Nat}{K:List Int}{s0 s1 s2:Int}:Dt 6 (TO w H K s0 s1 s2):=by
 have one:∀ (i:Int) (j:Nat),1≤j→Dt j (One (.int i)):=fun i j q=>ke Bh q
 refine qw (k:=5) fun V hV=>?_
 unfold toV at hV
 rw [Oz.g1,Oz.g1,Oz.g1,Oz.g1] at hV
 rcases hV with (((q | q) | q) | q) | q
 ·unfold baV at q
  simp only [Oz.g6,Oz.g0,or_false] at q
  rcases q with rfl | rfl | rfl | rfl <;> exact one _ _ (by decide)
 ·obtain⟨lv,_,q⟩:=List.mem_flatMap.mp q
  unfold lvV at q
  rcases Oz.g6.mp q with rfl | q
  ·exact ke ug (by decide)
  ·split at q
   ·rw [Oz.g9.mp q]
    exact ke (qw (k:=2) fun V hV=>by
     obtain⟨N,_,rfl⟩:=Oz.g8.mp hV
     exact Og) (by decide)
   ·cases q
 ·obtain⟨x,_,q⟩:=List.mem_flatMap.mp q
  unfold spV at q
  simp only [Oz.g6,Oz.g0,or_false] at q
  rcases q with rfl | rfl
  ·refine ke (qw (k:=1) fun V hV=>?_) (by decide)
   simp only [Oz.g6,Oz.g0,or_false] at hV
   rcases hV with rfl | rfl | rfl | rfl
   ·exact Kw
   ·exact Gj
   ·exact Gj
   ·exact Bh
  ·exact ke Dv (by decide)
 ·rw [Oz.g9.mp q]
  refine ke (qw (k:=2) fun V hV=>?_) (by decide)
  simp only [Oz.g6,Oz.g0,or_false] at hV
  rcases hV with rfl | rfl | rfl
  ·exact ug
  ·exact ug
  ·exact one _ _ (by decide)
 ·unfold enV at q
  split at q
  ·cases q
  ·simp only [Oz.g6,Oz.g0,or_false] at q
   rcases q with rfl | rfl
   ·refine ke (qw (k:=3) fun V hV=>?_) (by decide)
    simp only [Oz.g6,Oz.g0,or_false] at hV
    rcases hV with rfl | rfl
    ·exact one _ _ (by decide)
    ·exact Dv
   ·refine ke (qw (k:=1) fun V hV=>?_) (by decide)
    simp only [Oz.g6,Oz.g0,or_false] at hV
    rcases hV with rfl | rfl <;> exact Bh
section
variable {n:Nat}{h h' : HP}{i d k r s f lo:Nat}{w N c v:Int}{H:Nat}{K:List Int}{t3 t4 t5:Option AV}{s0 s1 s2:Int}
noncomputable abbrev tl (i s f:Nat) (t3 t4 t5:Option AV):LOC:=[some (.ref i),some (.ref s),some (.ref f),t3,t4,t5]
theorem Ac (z:Zz w H W) (L:La h i d k w H K) (v0:0≤v) (v1:v<w^H) (hlo:lo≤h.length):Oz.E3 fun q vs h'=>ae G W (n+5) 14 [.ref i,.int v] h=.ok (.ref q) h'∧h'[q]?=some (.list vs)∧h.length≤q∧Ex [] h h'∧(∀ q' h'',h''[q']?=some (.list vs)→lo≤q'→Ex [] h' h''→Sta (PT w H K v) (.ref q') lo h''.length h''):=by
 refine Oz.z fun ζ η=>?_
 obtain⟨h',q,e,hq,x,alt⟩:=J2 (n:=n) g.toLT g.trail L.toLad (L.ok z) (by have:=z.big; exact Oz.o812 this) v0 v1
 refine η ?_
 rcases alt with ⟨n1,e1⟩ | ⟨y,ps,ts,hy,le,_,wl,_,pa,_⟩
 ·exact⟨q,_,h',e,e1,hq,Ex.of x,fun q' h'' e' hq' x' h3 k=>⟨q',rfl,.inl ⟨n1,(k.zone q' hq' (au e')).trans e'⟩⟩⟩
 ·exact⟨q,_,h',e,pa.list,hq,Ex.of x,fun q' h'' e' hq' x' h3 k=>⟨q',rfl,.inr ⟨y,ps,ts,hy,le,wl,⟨pa.len,(k.zone q' hq' (au e')).trans e',fun j t p a b=>k.tup _ _ (x'.tup _ _ (pa.tups j t p a b))⟩⟩⟩⟩
theorem Ez {m:Nat}(z:Zz w H W) (L:La h i d k w H K) (hN:K[m]?=some N) (hlo:lo≤h.length):Oz.E3 fun q vs h'=>ae G W (n+5) 19 [.ref i,.int (m:Nat)] h=.ok (.ref q) h'∧h'[q]?=some (.list vs)∧vs≠[]∧Ex [] h h'∧(∀ q' h'',h''[q']?=some (.list vs)→lo≤q'→Ex [] h' h''→Sta (PT w H K N) (.ref q') lo h''.length h''):=by
 refine Oz.z fun ζ η=>?_
 obtain⟨h',q,y,ps,ts,e,hq,x,hy,le,wy,wl,_,pa,_⟩:=Nz (n:=n) g.toLT g.way g.at_ g.m15 L.toLad (L.ok z) (by have:=z.big; exact Oz.o812 this) hN
 refine η ?_
 refine⟨q,_,h',e,pa.list,fun c=>?_,Ex.of x,fun q' h'' e' hq' x' h3 k=>⟨q',rfl,.inr ⟨y,ps,ts,hy,le,wl,⟨pa.len,(k.zone q' hq' (au e')).trans e',fun j t p a b=>k.tup _ _ (x'.tup _ _ (pa.tups j t p a b))⟩⟩⟩⟩
 have l0:ts.length=0:=by rw [← Oz.g13 (as:=ts) (f:=AV.ref),c]; rfl
 have:=pa.len
 cases wl with
 | stop=>rw [l0] at this; cases this
 | go=>rw [l0] at this; cases this
theorem Ag {lv:Nat}(z:Zz w H W) (L:La h i d k w H K) (hlv:lv≤H) (hN:N∈ay (w^lv) Option.none K):Oz.E3 fun q vs h'=>ae G W (n+4) 13 [.ref i,.int lv,.int N] h=.ok (.ref q) h'∧h'[q]?=some (.tup vs)∧Ex [] h h'∧Sta (AH w K lv N) (.ref q) lo h'.length h' := by
 refine Oz.z fun ζ η=>?_
 obtain⟨h',q,p,gg,e,hq,ht,x,hp,f1,f2⟩:=wu (n:=n) (lv:=lv) (N:=N) g.power g.thinned g.lesser g.level g.m2 g.m9 g.ahead L.toLad (L.ok z) hlv hN
 refine η ?_
 exact⟨q,_,h',e,ht,Ex.of x,fun h3 k=>⟨q,p,gg,rfl,k.tup _ _ ht,hp,f1,f2⟩⟩
end
end N14
end Sk
set_option autoImplicit false
namespace Sk
namespace N14
section
variable {n:Nat}{h h' : HP}{i d k r s f lo:Nat}{w N c v x:Int}{H:Nat}{K:List Int}{t3 t4 t5:Option AV}{s0 s1 s2:Int}{Vs:List Vw}
theorem La.exF {vs:List AV}(L:La h i d k w H K) (e:h[f]?=some (.list vs)) (x:Ex [f] h h') (fk:f≠k):La h' i d k w H K:=by
 have a1:i≠f:=fun q=>by have:=L.inst; rw [q,e] at this; cases this
 have a2:d≠f:=fun q=>by have:=L.flds; rw [q,e] at this; cases this
 exact⟨L.toLad.ext x.toExt (by simpa using a1) (by simpa using a2) (by simpa using fk.symm),L.kp,L.few⟩
theorem Fnd.at (F:Fnd h f Vs):∃ vs,h[f]?=some (.list vs):=F.ex.imp fun ζ q=>q.1
set_option tactic.hygienic true in
theorem Gz {lv:Nat}(z:Zz w H W) (L:La h i d k w H K) (F:Fnd h f Vs) (hs:h[s]?=some (.list [.int s0,.int s1,.int s2])) (sf:f≠s) (fk:f≠k) (hlv:lv≤H) (hV:Vs.length≤900) :
  Oz.E2 fun t h'=>exec G (ae G W (n+5)) W toA (tl i s f (some (.int (lv:Nat))) t4 t5) h=.next (tl i s f (some (.int (lv:Nat))) t4 t) h'∧Fnd h' f (Vs++lvV w K (s0.fmod (H+1)) lv)∧Ex [f] h h' := by
 obtain⟨gb,el⟩:=pj (W:=W) (n:=n+2) (lv:=lv) g.power g.thinned g.level L.toLad (L.ok z) hlv
 obtain⟨th,hth⟩:∃ th,th=ay (w^lv) Option.none K:=⟨_,rfl⟩
 unfold lvV
 rw [← hth] at el ⊢
 refine Oz.z fun ζ η=>?_
 obtain⟨h1,hh1⟩:∃ h1:HP,h1=h++.list (th.map .int)::gb:=⟨_,rfl⟩
 rw [← hh1] at el
 have q1:h1[h.length]?=some (.list (th.map .int)):=by rw [hh1]; exact ak
 obtain⟨h2,hh2⟩:∃ h2:HP,h2=h1++[.list (th.map .int)]:=⟨_,rfl⟩
 have q2:h2[h1.length]?=some (.list (th.map .int)):=by rw [hh2]; exact ak
 have x1:Ex [] h h1:=hh1 ▸ Ex.app
 have x2:Ex [] h h2:=x1.trans (hh2 ▸ Ex.app)
 have eb:=jq q1
 rw [← hh2] at eb
 obtain⟨us,fe⟩:=F.at
 have fl:=au fe
 have l1:=x1.len
 have l2:=au q2
 have th9:th.length≤99:=by rw [hth]; exact Oz.g2 (gw _ _).length_le L.few
 have a1:=am (W:=W) (k:=5) (b7 (gf (G:=G) (cl:=ae G W (n+5)) (l:=tl i s f (some (.int (lv:Nat))) t4 t5) (a:=.loc 0) (m:=9) (aa rfl) L.inst g.m9 L.flds (ag (a:=.loc 3) (aa rfl) aj) el) eb)
 obtain⟨h3,e3,F3,x3⟩:=qg (G:=G) (cl:=ae G W (n+5)) (W:=W) (b:=.loc 5) (l:=tl i s f (some (.int (lv:Nat))) t4 (some (.ref h1.length))) (F.ex0 x2) rfl (aa rfl) Ex.refl (vo q2 (by exact Oz.o813 fl l1) l2) (by exact Oz.o814 hV)
 refine η ?_
 have fe2:=x2.get fe Oz.g0
 have L3:=(L.ex0 x2).exF fe2 x3 fk
 have hs3:=x3.get (x2.get hs Oz.g0) (by simpa using sf.symm)
 have q3:=x3.get q2 (by simp; exact Oz.o722 fl l1)
 have hz:=z.h12
 have tc:=az (G:=G) (cl:=ae G W (n+5)) (l:=tl i s f (some (.int (lv:Nat))) t4 (some (.ref h1.length))) (a:=.loc 3) (aa rfl) (aq (a:=.item (.loc 1) (.int 0)) (b:=.bin .add (.attr (.loc 0) 1) (.int 1)) (bc (aa rfl) ai (bh (k:=0) hs3 rfl)) (aq (L3.ea rfl rfl) ai b8) (fy (je (by exact Oz.o815) (by exact Oz.o816 hz)))) oj
 by_cases hc:(lv:Int)=s0.fmod (H+1)
 ·rw [decide_eq_true hc] at tc
  refine Oz.z fun ζ1 η1=>?_
  obtain⟨q,xs,h4,e4,x4,_,_,_,st⟩:=jv (α:=Int) (lo:=f+1) (G:=G) (cl:=ae G W (n+5)) (l:=tl i s f (some (.int (lv:Nat))) t4 (some (.ref h1.length))) (elt:=.meth (.loc 0) 10 (.cons (.loc 3) (.cons (.loc 6) .nil))) (cond:=.bool true) (e:=AV.int) (p:=fun ζ=>true) (V:=AH w K lv) (L:=th) (ag (a:=.loc 5) (aa rfl) aj) Ex.refl (bw q3) (by exact Oz.o798 th9) (by have:=x3.len; exact Oz.o817 fl l1 l2 this) (fun h' x=>b4 (x.get q3 Oz.g0))
   (fun N hN h' x=>⟨h',jc,Ex.refl,fun ζ=>by
    have L' := L3.ex0 x
    refine Oz.z fun ζ2 η2=>?_
    obtain⟨q,vs,h5,e5,_,x5,st⟩:=Ag (n:=n+1) (lo:=f+1) z L' hlv (by rw [← hth]; exact hN)
    refine η2 ?_
    exact⟨_,h5,L'.em rfl g.m10 (es2 rfl rfl) e5,x5,st⟩⟩)
  rw [List.filter_eq_self.mpr (fun ζ ζ=>rfl)] at st
  obtain⟨h5,e5,F5,x5⟩:=qg (W:=W) F3 rfl e4 x4 st (by simp; exact Oz.o818 hV)
  refine η1 ?_
  refine⟨_,h5,af a1 (af e3 (af (be tc (af e5 ah)) ah)),?_,x2.up.trans (x3.trans x5)⟩
  rw [if_pos hc]
  rw [Oz.g19] at F5
  exact F5
 ·rw [decide_eq_false hc] at tc
  refine⟨_,h3,af a1 (af e3 (af (ap tc ah) ah)),?_,x2.up.trans x3⟩
  rw [if_neg hc]
  exact F3
set_option tactic.hygienic true in
theorem Gy (z:Zz w H W) (L:La h i d k w H K) (F:Fnd h f Vs) (fk:f≠k) (v0:0≤x) (v1:x<w^H) (hV:Vs.length≤900) :
  ∃ h',exec G (ae G W (n+5)) W toB (tl i s f t3 (some (.int x)) t5) h=.next (tl i s f t3 (some (.int x)) t5) h'∧Fnd h' f (Vs++spV w H K x)∧Ex [f] h h' := by
 have ok:=L.ok z
 have ehas:=ua (W:=W) (n:=n+3) (v:=x) g.has g.need g.m1 L.toLad v0 v1
 have ebel:=J6 (n:=n+3) g.toLG g.below L.toLad ok v0 v1
 have eabo:=J7 (n:=n+3) g.toLG g.above L.toLad ok v0 v1
 have epl:=J3 (n:=n+3) g.toLG g.place L.toLad ok v0 v1
 refine Oz.z fun ζ η=>?_
 obtain⟨us,fe⟩:=F.at
 have fl:=au fe
 have ea:=ag (G:=G) (cl:=ae G W (n+5)) (l:=tl i s f t3 (some (.int x)) t5) (a:=.meth (.loc 0) 5 (.cons (.loc 4) .nil)) (L.em rfl g.m5 (es1 rfl) ehas) (ag (a:=.meth (.loc 0) 12 (.cons (.loc 4) .nil)) (L.em rfl g.m12 (es1 rfl) ebel)
  (ag (a:=.meth (.loc 0) 13 (.cons (.loc 4) .nil)) (L.em rfl g.m13 (es1 rfl) eabo) (ag (a:=.meth (.loc 0) 14 (.cons (.loc 4) .nil)) (L.em rfl g.m14 (es1 rfl) epl) aj)))
 obtain⟨h1,e1,F1,x1⟩:=qg (W:=W) F rfl (b3 ea rfl) Ex.app (nh ak (by exact Oz.o266 fl) (by simp) (Row.cons cy (Row.cons cy (Row.cons cy (Row.cons cy Row.nil))))) (by exact Oz.o814 hV)
 have L1:=L.exF fe x1 fk
 obtain⟨u1,fe1⟩:=F1.at
 have fl1:=au fe1
 obtain⟨q,vs,h2,e2,q2,hq,x2,st⟩:=Ac (n:=n) (lo:=f+1) z L1 v0 v1 fl1
 obtain⟨h3,hh3⟩:∃ h3:HP,h3=h2++[.list vs]:=⟨_,rfl⟩
 have q3:h3[h2.length]?=some (.list vs):=by rw [hh3]; exact ak
 have eb:=jq q2
 rw [← hh3] at eb
 have x3:Ex [] h2 h3:=hh3 ▸ Ex.app
 obtain⟨h4,e4,F4,x4⟩:=qg (W:=W) F1 rfl (b7 (gf (G:=G) (cl:=ae G W (n+5)) (l:=tl i s f t3 (some (.int x)) t5) (a:=.loc 0) (m:=11) (aa rfl) L1.inst g.m11 L1.flds (ag (a:=.loc 4) (aa rfl) aj) e2) eb) (x2.trans x3) (st _ _ q3 (by have:=x2.len; exact Oz.o813 fl1 this) x3) (by simp; exact Oz.o818 hV)
 refine η ?_
 rw [Oz.g19] at F4
 exact⟨h4,af e1 (af e4 ah),F4,x1.trans x4⟩
end
end N14
end Sk
set_option autoImplicit false
namespace Sk
namespace N14
section
variable {n:Nat}{h h' : HP}{i d k r s f lo:Nat}{w N c v x:Int}{H:Nat}{K:List Int}{t3 t4 t5:Option AV}{s0 s1 s2:Int}{Vs:List Vw}
noncomputable def toC:CE:=(.list (.cons (.bf .list (.cons (.meth (.loc 0) 8 .nil) .nil)) (.cons (.bf .list (.cons (.meth (.loc 0) 17 (.cons (.item (.loc 1) (.int 1)) (.cons (.item (.loc 1) (.int 2)) .nil))) .nil)) (.cons (.meth (.loc 0) 18 (.cons (.item (.loc 1) (.int 2)) (.cons (.item (.loc 1) (.int 1)) .nil))) .nil))))
set_option tactic.hygienic true in
theorem Gx (z:Zz w H W) (L:La h i d k w H K) (F:Fnd h f Vs) (hs:h[s]?=some (.list [.int s0,.int s1,.int s2])) (a0:0≤s1) (a1:s1<w^H) (b0:0≤s2) (b1:s2<w^H) (hV:Vs.length≤900) :
  ∃ h',exec G (ae G W (n+5)) W (.ex (.bm .append (.loc 2) (.cons toC .nil))) (tl i s f t3 t4 t5) h=.next (tl i s f t3 t4 t5) h'∧Fnd h' f (Vs++[LV [IL K,IL (btw K s1 s2),One (.int ((btw K s2 s1).length:Nat))]])∧Ex [f] h h' := by
 have k9:K.length≤99999:=by have:=L.few; exact Oz.o798 this
 refine Oz.z fun ζ η=>?_
 obtain⟨us,fe⟩:=F.at
 have fl:=au fe
 obtain⟨h1,hh1⟩:∃ h1:HP,h1=h++[.list (K.map .int)]:=⟨_,rfl⟩
 have e1:=ni (n:=n+4) L.toLad
 rw [← hh1] at e1
 have q1:h1[h.length]?=some (.list (K.map .int)):=by rw [hh1]; exact ak
 obtain⟨h2,hh2⟩:∃ h2:HP,h2=h1++[.list (K.map .int)]:=⟨_,rfl⟩
 have e2:=jq q1
 rw [← hh2] at e2
 have q2:h2[h1.length]?=some (.list (K.map .int)):=by rw [hh2]; exact ak
 have x2:Ex [] h h2:=Ex.trans (hh1 ▸ Ex.app) (hh2 ▸ Ex.app)
 have L2:=L.ex0 x2
 have hs2:=x2.get hs Oz.g0
 obtain⟨h3,hh3⟩:∃ h3:HP,h3=h2++[.list ((btw K s1 s2).map .int)]:=⟨_,rfl⟩
 have e3:ae G W (n+5) 20 [.ref i,.int s1,.int s2] h2=.ok (.ref h2.length) (h2++[.list ((btw K s1 s2).map .int)]):=rq (n:=n+3) g.toLG g.str L2.toLad k9 ⟨a0,Int.le_of_lt a1⟩ ⟨b0,Int.le_of_lt b1⟩
 rw [← hh3] at e3
 have q3:h3[h2.length]?=some (.list ((btw K s1 s2).map .int)):=by rw [hh3]; exact ak
 obtain⟨h4,hh4⟩:∃ h4:HP,h4=h3++[.list ((btw K s1 s2).map .int)]:=⟨_,rfl⟩
 have e4:=jq q3
 rw [← hh4] at e4
 have q4:h4[h3.length]?=some (.list ((btw K s1 s2).map .int)):=by rw [hh4]; exact ak
 have x4:Ex [] h2 h4:=Ex.trans (hh3 ▸ Ex.app) (hh4 ▸ Ex.app)
 have L4:=L2.ex0 x4
 have hs4:=x4.get hs2 Oz.g0
 obtain⟨h5,hh5⟩:∃ h5:HP,h5=h4++[.list ((btw K s2 s1).map .int)]:=⟨_,rfl⟩
 have e5:ae G W (n+5) 21 [.ref i,.int s2,.int s1] h4=.ok (.int ((btw K s2 s1).length:Nat)) (h4++[.list ((btw K s2 s1).map .int)]):=E9 (n:=n+2) g.toLG g.str g.cnt g.m17 L4.toLad k9 ⟨b0,Int.le_of_lt b1⟩ ⟨a0,Int.le_of_lt a1⟩
 rw [← hh5] at e5
 have x5:Ex [] h4 h5:=hh5 ▸ Ex.app
 obtain⟨h6,hh6⟩:∃ h6:HP,h6=h5++[.list [.ref h1.length,.ref h3.length,.int ((btw K s2 s1).length:Nat)]]:=⟨_,rfl⟩
 refine η ?_
 have x6:Ex [] h5 h6:=hh6 ▸ Ex.app
 have q6:h6[h5.length]?=some (.list [.ref h1.length,.ref h3.length,.int ((btw K s2 s1).length:Nat)]):=by rw [hh6]; exact ak
 have x46:=x5.trans x6
 have x26:=x4.trans x46
 have c1:=au q1
 have c2:=au q2
 have c3:=au q3
 have c4:=au q4
 have c5:=x5.len
 have c6:=au q6
 have ee:=b3 (ag (G:=G) (cl:=ae G W (n+5)) (l:=tl i s f t3 t4 t5) (b7 (gf (a:=.loc 0) (m:=8) (aa rfl) L.inst g.m8 L.flds aj e1) e2) (ag (b7 (gf (a:=.loc 0) (m:=17) (aa rfl) L2.inst g.m17 L2.flds (ag (a:=.item (.loc 1) (.int 1)) (bc (aa rfl) ai (bh (k:=1) hs2 rfl)) (ag (a:=.item (.loc 1) (.int 2)) (bc (aa rfl) ai (bh (k:=2) hs2 rfl)) aj)) e3) e4)
  (ag (gf (a:=.loc 0) (m:=18) (aa rfl) L4.inst g.m18 L4.flds (ag (a:=.item (.loc 1) (.int 2)) (bc (aa rfl) ai (bh (k:=2) hs4 rfl)) (ag (a:=.item (.loc 1) (.int 1)) (bc (aa rfl) ai (bh (k:=1) hs4 rfl)) aj)) e5) aj))) rfl
 rw [← hh6] at ee
 exact qg (b:=toC) F rfl ee (x2.trans x26) (nh q6 (by exact Oz.o842 fl c1 c2 c3 c4 c5) c6 (Row.cons (vo (x26.get q2 Oz.g0) (by exact Oz.o843 fl c1) (by exact Oz.o844 c2 c3 c4 c5 c6)) (Row.cons (vo (x46.get q4 Oz.g0) (by exact Oz.o845 fl c1 c2 c3) (by exact Oz.o846 c4 c5 c6)) (Row.cons cy Row.nil)))) (by exact Oz.o814 hV)
theorem kq {m:Nat}(hm:m<K.length):K[m]?=some (K.getD m 0):=by
 rw [List.getD_eq_getElem?_getD,Oz.g10 hm]; rfl
set_option tactic.hygienic true in
theorem Gw (z:Zz w H W) (L:La h i d k w H K) (F:Fnd h f Vs) (hs:h[s]?=some (.list [.int s0,.int s1,.int s2])) (sf:f≠s) (fk:f≠k) (hV:Vs.length≤900) :
  ∃ h',exec G (ae G W (n+5)) W toD (tl i s f t3 t4 t5) h=.next (tl i s f t3 t4 t5) h'∧Fnd h' f (Vs++enV w H K s0)∧Ex [f] h h' := by
 have tc:=az (G:=G) (cl:=ae G W (n+5)) (h:=h) (l:=tl i s f t3 t4 t5) (a:=.attr (.loc 0) 3) (b:=.int 0) (L.ea rfl rfl) ai (vg (i:=(K.length:Int)) (j:=0))
 unfold enV
 by_cases hK:K=[]
 ·subst hK
  rw [if_pos rfl,List.append_nil]
  exact⟨h,ap tc ah,F,Ex.refl⟩
 ·have lp:0<K.length:=List.length_pos_iff.mpr hK
  rw [decide_eq_true (show(0:Int)<(K.length:Int) by exact Oz.o480 lp)] at tc
  rw [if_neg hK]
  obtain⟨m,hm⟩:∃ m,m=(s0.fmod K.length).toNat:=⟨_,rfl⟩
  rw [← hm]
  have fm:=fm s0 K.length (by exact Oz.o480 lp)
  have em:s0.fmod K.length=((m:Nat):Int):=by exact Oz.o847 hm fm.1
  have hN:=kq (K:=K) (m:=m) (by exact Oz.o848 fm.2 em)
  have h00:=kq (K:=K) (m:=0) lp
  have hl:=kq (K:=K) (m:=K.length - 1) (by exact Oz.o723 lp)
  have k9:=L.few
  refine Oz.z fun ζ η=>?_
  obtain⟨us,fe⟩:=F.at
  have fl:=au fe
  have im:∀ h' : HP,h'[s]?=some (.list [.int s0,.int s1,.int s2])→La h' i d k w H K→ev G (ae G W (n+5)) (.bin .mod (.item (.loc 1) (.int 0)) (.attr (.loc 0) 3)) (tl i s f t3 t4 t5) h'=.ok (.int (m:Nat)) h' := fun h' hs' L'=>by
   rw [← em]
   exact aq (bc (aa rfl) ai (bh (k:=0) hs' rfl)) (L'.ea rfl rfl) (fy (je (by exact Oz.o481 lp) (by exact Oz.o849 k9)))
  have e1:=Af (W:=W) (n:=n+4) g.at_ L.toLad hN
  obtain⟨q,vs,h2,e2,q2,_,x2,st⟩:=Ez (n:=n) (lo:=f+1) z L hN fl
  obtain⟨h3,hh3⟩:∃ h3:HP,h3=h2++[.list vs]:=⟨_,rfl⟩
  have q3:h3[h2.length]?=some (.list vs):=by rw [hh3]; exact ak
  have eb:=jq q2
  rw [← hh3] at eb
  have x3:Ex [] h2 h3:=hh3 ▸ Ex.app
  have c2:=x2.len
  have c3:=au q3
  have st3:=st _ _ q3 (by exact Oz.o813 fl c2) x3
  obtain⟨h4,hh4⟩:∃ h4:HP,h4=h3++[.list [.int (K.getD m 0),.ref h2.length]]:=⟨_,rfl⟩
  have q4:h4[h3.length]?=some (.list [.int (K.getD m 0),.ref h2.length]):=by rw [hh4]; exact ak
  have x4:Ex [] h3 h4:=hh4 ▸ Ex.app
  have c4:=au q4
  have ee:=b3 (ag (G:=G) (cl:=ae G W (n+5)) (l:=tl i s f t3 t4 t5) (gf (a:=.loc 0) (m:=15) (aa rfl) L.inst g.m15 L.flds (ag (im h hs L) aj) e1) (ag (b7 (gf (a:=.loc 0) (m:=16) (aa rfl) L.inst g.m16 L.flds (ag (im h hs L) aj) e2) eb) aj)) rfl
  rw [← hh4] at ee
  obtain⟨h5,e5,F5,x5⟩:=qg (W:=W) F rfl ee (x2.trans (x3.trans x4)) (nh q4 (by exact Oz.o850 fl c2 c3) c4 (Row.cons cy (Row.cons ((st3.ex0 x4 (Oz.g3 _)).wide (Oz.g3 _) x4.len) Row.nil))) (by exact Oz.o814 hV)
  have L5:=L.exF fe x5 fk
  obtain⟨u5,fe5⟩:=F5.at
  have fl5:=au fe5
  have e6:=Af (W:=W) (n:=n+4) g.at_ L5.toLad h00
  have e7:=Af (W:=W) (n:=n+4) g.at_ L5.toLad hl
  have ec:((K.length - 1:Nat):Int)=(K.length:Int) - 1:=by exact Oz.o836 lp
  rw [ec] at e7
  have ef:=b3 (ag (G:=G) (cl:=ae G W (n+5)) (l:=tl i s f t3 t4 t5) (gf (a:=.loc 0) (m:=15) (aa rfl) L5.inst g.m15 L5.flds (ag (a:=.int 0) ai aj) e6) (ag (gf (a:=.loc 0) (m:=15) (aa rfl) L5.inst g.m15 L5.flds (ag (a:=.bin .sub (.attr (.loc 0) 3) (.int 1)) (aq (L5.ea rfl rfl) ai fj) aj) e7) aj)) rfl
  obtain⟨h6,e8,F6,x6⟩:=qg (W:=W) F5 rfl ef Ex.app (nh ak (by exact Oz.o266 fl5) (by simp) (Row.cons cy (Row.cons cy Row.nil))) (by simp; exact Oz.o818 hV)
  refine η ?_
  rw [Oz.g19] at F6
  exact⟨h6,be tc (af e5 (af e8 ah)),F6,x5.trans x6⟩
end
end N14
end Sk
set_option autoImplicit false
namespace Sk
namespace N14
section
variable {n:Nat}{h h' : HP}{i d k r s f lo:Nat}{w N c v x:Int}{H:Nat}{K:List Int}{t3 t4 t5:Option AV}{s0 s1 s2:Int}{Vs:List Vw}
theorem C8 (hs:h[s]?=some (.list [.int s0,.int s1,.int s2])):io (.ref s) (.int 1) .none 0 h=.ok (.ref h.length) (h++[.list ([s1,s2].map .int)]):=by
 have e:ly [.int s0,.int s1,.int s2] (.int 1) .none 0=some ([s1,s2].map .int):=by
  show some ((bz (some 1) Option.none 0 3).filterMap (([AV.int s0,AV.int s1,AV.int s2]:List AV)[·]?))=_
  rw [show bz (some 1) Option.none 0 3=[1,2] by decide +kernel]; rfl
 unfold io
 dsimp only
 rw [hs]
 dsimp only
 rw [e]; rfl
theorem Kh {sp:Int}{lv:Nat}:(lvV w K sp lv).length≤2:=by
 unfold lvV
 split <;> simp
set_option tactic.hygienic true in
theorem Lh (z:Zz w H W) (L:La h i d k w H K) (F:Fnd h f Vs) (hs:h[s]?=some (.list [.int s0,.int s1,.int s2])) (sf:f≠s) (fk:f≠k) (hV:Vs.length≤4) :
  Oz.E3 fun t u h'=>exec G (ae G W (n+5)) W (.for1 3 .range1 (.cons (.bin .add (.attr (.loc 0) 1) (.int 1)) .nil) toA) (tl i s f t3 t4 t5) h=.next (tl i s f t t4 u) h'∧Fnd h' f (Vs++(List.range (H+1)).flatMap (lvV w K (s0.fmod (H+1))))∧Ex [f] h h'∧((List.range (H+1)).flatMap (lvV w K (s0.fmod (H+1)))).length≤26:=by
 refine Oz.z fun ζ η=>?_
 obtain⟨us,fe⟩:=F.at
 have hz:=z.h12
 have loop:=di (g:=Option.none) (step:=fun v ζ l' h'=>exec G (ae G W (n+5)) W toA (l'.set 3 (some v)) h')
  (fun j l' h'=>Oz.E2 fun t u=>l'=tl i s f t t4 u∧Fnd h' f (Vs++(List.range j).flatMap (lvV w K (s0.fmod (H+1))))∧Ex [f] h h'∧((List.range j).flatMap (lvV w K (s0.fmod (H+1)))).length≤2*j) ((List.range (H+1)).map fun(k:Nat)=>AV.int (k:Int)) 0 (tl i s f t3 t4 t5) h
  ⟨_,_,rfl,by simpa using F,Ex.refl,Oz.g3 _⟩
  (fun j v l' h' hj hI=>by
   rw [Nat.zero_add] at hI ⊢
   refine Oz.z fun ζ1 η1=>?_
   obtain⟨t,u,rfl,F',ex,hl⟩:=hI
   obtain⟨lt,rfl⟩:=Ey hj
   obtain⟨u',h2,e,F2,x2⟩:=Gz (n:=n) (lv:=j) (t4:=t4) (t5:=u) z (L.exF fe ex fk) F' (ex.get hs (by simpa using sf.symm)) sf fk (by exact Oz.o313 lt) (by rw [Oz.g26]; exact Oz.o819 hV hz hl lt)
   refine η1 ?_
   refine⟨rfl,_,h2,e,_,_,rfl,?_,ex.trans x2,?_⟩
   ·rw [List.range_succ,List.flatMap_append,List.flatMap_singleton,← Oz.g19]; exact F2
   ·rw [List.range_succ,List.flatMap_append,List.flatMap_singleton,Oz.g26]; have:=Kh (w:=w) (K:=K) (sp:=s0.fmod (H+1)) (lv:=j); exact Oz.o820 hl this)
  (fun ζ ζ ζ=>rfl)
 obtain⟨l',h',e,t,u,rfl,F',ex,hl⟩:=loop
 refine η ?_
 rw [Nat.zero_add,Oz.g13,List.length_range] at F' hl
 have it:bp .range1 [.int ((H:Int)+1)] h=some ((List.range (H+1)).map fun(k:Nat)=>AV.int (k:Int),Option.none):=if_pos (by exact Oz.o729 hz)
 exact⟨t,u,h',ft (ag (aq (L.ea rfl rfl) ai b8) aj) it e,F',ex,by exact Oz.o821 hz hl⟩
set_option tactic.hygienic true in
theorem Lg (z:Zz w H W) (L:La h i d k w H K) (F:Fnd h f Vs) (hs:h[s]?=some (.list [.int s0,.int s1,.int s2])) (fk:f≠k) (rg:∀ x∈[s1,s2],0≤x∧x<w^H) (hV:Vs.length≤40) :
  Oz.E2 fun t h'=>exec G (ae G W (n+5)) W (.for1 4 .val (.cons (.slice (.loc 1) (.int 1) .none 0) .nil) toB) (tl i s f t3 t4 t5) h=.next (tl i s f t3 t t5) h'∧Fnd h' f (Vs++[s1,s2].flatMap (spV w H K))∧Ex [f] h h' := by
 obtain⟨us,fe⟩:=F.at
 obtain⟨xs,hxs⟩:∃ xs,xs=[s1,s2]:=⟨_,rfl⟩
 have l2:xs.length=2:=by rw [hxs]; rfl
 have sl:=C8 hs
 rw [← hxs] at rg sl ⊢
 refine Oz.z fun ζ η=>?_
 obtain⟨h1,hh1⟩:∃ h1:HP,h1=h++[.list (xs.map .int)]:=⟨_,rfl⟩
 rw [← hh1] at sl
 have q1:h1[h.length]?=some (.list (xs.map .int)):=by rw [hh1]; exact ak
 have x1:Ex [] h h1:=hh1 ▸ Ex.app
 have fl:=au fe
 have loop:=di (g:=some (h.length,.list (xs.map .int))) (step:=fun v ζ l' h'=>exec G (ae G W (n+5)) W toB (l'.set 4 (some v)) h')
  (fun j l' h'=>∃ t,l'=tl i s f t3 t t5∧Fnd h' f (Vs++(xs.take j).flatMap (spV w H K))∧Ex [f] h1 h'∧((xs.take j).flatMap (spV w H K)).length=2*(xs.take j).length) (xs.map .int) 0 (tl i s f t3 t4 t5) h1
  ⟨_,rfl,by simpa using F.ex0 x1,Ex.refl,rfl⟩
  (fun j v l' h' hj hI=>by
   rw [Nat.zero_add] at hI ⊢
   refine Oz.z fun ζ1 η1=>?_
   obtain⟨t,rfl,F',ex,hl⟩:=hI
   rw [Oz.g12] at hj
   obtain⟨x,hx,rfl⟩:=Oz.g11.mp hj
   obtain⟨v0,v1⟩:=rg x (Oz.g16 hx)
   have tk:xs.take (j+1)=xs.take j++[x]:=by rw [List.take_add_one,hx]; rfl
   obtain⟨h2,e,F2,x2⟩:=Gy (n:=n) (t3:=t3) (t5:=t5) (s:=s) z ((L.ex0 x1).exF (x1.get fe Oz.g0) ex fk) F' fk v0 v1 (by rw [Oz.g26,hl,List.length_take]; exact Oz.o822 hV l2)
   refine η1 ?_
   refine⟨b4 (ex.get q1 (by simp; exact Oz.o706 fl)),_,h2,e,_,rfl,?_,ex.trans x2,?_⟩
   ·rw [tk,List.flatMap_append,List.flatMap_singleton,← Oz.g19]; exact F2
   ·rw [tk,List.flatMap_append,List.flatMap_singleton,Oz.g26,hl,Oz.g26]; unfold spV; simp; exact Oz.o823)
  (fun l' h' hI=>by
   refine Oz.z fun ζ2 η2=>?_
   obtain⟨_,_,_,ex,_⟩:=hI
   refine η2 ?_
   exact b4 (ex.get q1 (by simp; exact Oz.o706 fl)))
 obtain⟨l',h',e,t,rfl,F',ex,_⟩:=loop
 refine η ?_
 rw [Nat.zero_add,Oz.g13,List.take_length] at F'
 exact⟨t,h',ft (ag (iq (aa rfl) ai cw sl) aj) (bw q1) e,F',x1.up.trans ex⟩
theorem Ex.unF (x:Ex [] h h'){h'' : HP}(y:Ex [f] h' h'') (hf:h.length≤f):Ex [] h h'' := x.fresh y (fun t ht=>.inr (by rw [Oz.g9.mp ht]; exact hf))
theorem vp (z:Zz w H W) (L:La h i d k w H K) (hs:h[s]?=some (.list [.int s0,.int s1,.int s2])) (rg:∀ x∈[s1,s2],0≤x∧x<w^H) :
  Oz.E2 fun q h'=>ae G W (n+6) 28 [.ref i,.ref s] h=.ok (.ref q) h'∧Ex [] h h'∧Sta (TO w H K s0 s1 s2) (.ref q) h.length h'.length h' := by
 refine Oz.z fun ζ η=>?_
 obtain⟨a0,a1⟩:=rg s1 (.head _)
 obtain⟨b0,b1⟩:=rg s2 (.tail _ (.head _))
 obtain⟨h1,hh1⟩:∃ h1:HP,h1=h++[.list [.int w,.int (H:Nat),.int (w^H),.int (K.length:Nat)]]:=⟨_,rfl⟩
 have x1:Ex [] h h1:=hh1 ▸ Ex.app
 have q1:h1[h.length]?=some (.list [.int w,.int (H:Nat),.int (w^H),.int (K.length:Nat)]):=by rw [hh1]; exact ak
 have e1:=b3 (ag (G:=G) (cl:=ae G W (n+5)) (l:=[some (.ref i),some (.ref s),Option.none,Option.none,Option.none,Option.none]) (h:=h) (a:=.attr (.loc 0) 0) (L.ea rfl rfl) (ag (a:=.attr (.loc 0) 1) (L.ea rfl rfl) (ag (a:=.attr (.loc 0) 2) (L.ea rfl rfl) (ag (a:=.attr (.loc 0) 3) (L.ea rfl rfl) aj)))) rfl
 rw [← hh1] at e1
 have F1:Fnd h1 h.length (baV w H K):=⟨_,q1,Row.cons cy (Row.cons cy (Row.cons cy (Row.cons cy Row.nil)))⟩
 have sf:h.length≠s:=by have:=au hs; exact Oz.o173 this
 have fk:h.length≠k:=by have:=au L.list; exact Oz.o173 this
 have up:∀ {h' : HP},Ex [] h h'→La h' i d k w H K∧h'[s]?=some (.list [.int s0,.int s1,.int s2]):=fun x=>⟨L.ex0 x,x.get hs Oz.g0⟩
 obtain⟨t,u,h2,e2,F2,x2,l2⟩:=Lh (n:=n) (t3:=Option.none) (t4:=Option.none) (t5:=Option.none) z (up x1).1 F1 (up x1).2 sf fk (Oz.g3 _)
 have y2:=x1.unF x2 (Oz.g3 _)
 obtain⟨t',h3,e3,F3,x3⟩:=Lg (n:=n) (t3:=t) (t4:=Option.none) (t5:=u) z (up y2).1 F2 (up y2).2 fk rg (by rw [Oz.g26]; show 4+_≤40; exact Oz.o824 l2)
 have y3:=y2.unF x3 (Oz.g3 _)
 have l3:([s1,s2].flatMap (spV w H K)).length=4:=rfl
 obtain⟨h4,e4,F4,x4⟩:=Gx (n:=n) (t3:=t) (t4:=t') (t5:=u) z (up y3).1 F3 (up y3).2 a0 a1 b0 b1 (by rw [Oz.g26,Oz.g26,l3]; show 4+_+4≤900; exact Oz.o825 l2)
 have y4:=y3.unF x4 (Oz.g3 _)
 obtain⟨h5,e5,F5,x5⟩:=Gw (n:=n) (t3:=t) (t4:=t') (t5:=u) z (up y4).1 F4 (up y4).2 sf fk (by rw [Oz.g26,Oz.g26,Oz.g26,l3]; show 4+_+4+1≤900; exact Oz.o826 l2)
 obtain⟨vs,e,r⟩:=F5.ex
 refine η ?_
 exact⟨_,h5,bj g.told rfl (af (am e1) (af e2 (af e3 (af e4 (af e5 (av (bi (aa rfl)))))))),y4.unF x5 (Oz.g3 _),nh e (Oz.g3 _) (au e) (r.wide (Nat.le_succ _) (Oz.g3 _))⟩
end
end N14
end Sk
set_option autoImplicit false
namespace Sk
namespace N14
section
variable {n:Nat}{h h' : HP}{i d k r s f lo:Nat}{w N c v x u:Int}{H:Nat}{K:List Int}{l:LOC}{cl:CallO}
theorem Nt {p:CS}{hs:CHs}{v:AV}(hb:exec G cl W p l h=.ret v h'):exec G cl W (.tr p hs) l h=.ret v h' := by
 show(match exec G cl W p l h with | .exc c l' h'=>hand G cl W hs c l' h' | r=>r)=_
 rw [hb]
theorem um {m:Nat}(hm:m≤12):bp .range1 [.int ((m:Int)+1)] h=some ((List.range (m+1)).map fun(k:Nat)=>AV.int (k:Int),Option.none):=if_pos (by exact Oz.o729 hm)
theorem vq (z:Zz w H W) (L:La h i d k w H K) (hu:u∉K):∃ h',ae G W (n+5) 34 [.ref i,.int u] h=.ok (.bool true) h'∧Ex [] h h' := by
 have loop:=di (g:=Option.none) (step:=fun u' ζ l' h'=>exec G (ae G W (n+4)) W (.seq (zm 2 5 (.meth (.loc 0) 10 (.cons (.loc 3) (.cons (.loc 1) .nil)))) .skip) (l'.set 3 (some u')) h')
  (fun j l' h'=>∃ t,l'=[some (.ref i),some (.int u),some (.int ((j:Int)+2)),t]∧Ex [] h h') ((List.range (H+1)).map fun(k:Nat)=>AV.int (k:Int)) 0 [some (.ref i),some (.int u),some (.int 2),Option.none] h ⟨_,rfl,Ex.refl⟩
  (fun j v l' h' hj hI=>by
   rw [Nat.zero_add] at hI ⊢
   refine Oz.z fun ζ η=>?_
   obtain⟨t,rfl,ex⟩:=hI
   obtain⟨lt,rfl⟩:=Ey hj
   have L' := L.ex0 ex
   obtain⟨h2,e,x2⟩:=Fa (n:=n) (lv:=j) (u:=u) g.power g.thinned g.level g.ahead g.m9 L'.toLad (L'.ok z) (by exact Oz.o313 lt) (fun q=>hu ((gw _ _).subset q))
   refine η ?_
   refine⟨rfl,_,_,af (qf (de (om (L'.em rfl g.m10 (es2 rfl rfl) e))) (wf g.u55 (af (am (aq (aa rfl) ai b8)) ah))) ah,some (.int (j:Nat)),?_,ex.trans (Ex.of x2)⟩
   show [some (AV.ref i),some (.int u),some (.int ((j:Int)+2+1)),some (.int (j:Nat))]=_
   rw [show(j:Int)+2+1=((j+1:Nat):Int)+2 by exact Oz.o833])
  (fun ζ ζ ζ=>rfl)
 refine Oz.z fun ζ1 η1=>?_
 obtain⟨l',h',e,t,rfl,ex⟩:=loop
 refine η1 ?_
 rw [Nat.zero_add,Oz.g13,List.length_range] at e
 have L' := L.ex0 ex
 have ea:=I0 (W:=W) (n:=n+3) (v:=(K.length:Int)) g.at_ L.toLad (.inr (Int.le_refl _))
 have ew:=Lw (W:=W) (n:=n+2) (v:=(K.length:Int)) g.way g.at_ g.m15 L.toLad (.inr (Int.le_refl _))
 have ec:cj .eq (.int (((H+1:Nat):Int)+2)) (.int (3+(H:Int))) h'=.ok (.bool true) h' := by rw [oj]; exact congrArg (fun b=>Sk.R.ok (AV.bool b) h') (decide_eq_true (by exact Oz.o834))
 exact⟨h',bj g.ends rfl (af (am ai) (af (qf (de (om (L.em rfl g.m15 (ag (L.ea rfl rfl) aj) ea))) (wf g.u77 (af (am (aq (aa rfl) ai b8)) ah)))
  (af (qf (de (om (L.em rfl g.m16 (ag (L.ea rfl rfl) aj) ew))) (wf g.u77 (af (am (aq (aa rfl) ai b8)) ah)))
  (af (ft (ag (aq (L.ea rfl rfl) ai b8) aj) (um z.h12) e) (av (bi (az (aa rfl) (aq ai (L'.ea rfl rfl) b8) ec))))))),ex⟩
theorem pi {α:Type}{f:α→AV}{L:List α}{xs:List AV}{lo hi:Nat}(r:Row xs (L.map fun a=>One (f a)) lo hi h):xs=L.map f:=by
 have hl:xs.length=L.length:=by rw [r.len,Oz.g13]
 refine List.ext_getElem? fun j=>?_
 rw [Oz.g12]
 rcases Nat.lt_or_ge j L.length with q | q
 ·have e1:=Oz.g10 (l:=xs) (i:=j) (by exact Oz.o406 hl q)
  have e2:=Oz.g10 q
  have:=(r.all j _ (One (f L[j])) e1 (by rw [Oz.g12,e2]; rfl)).now
  rw [e1,e2]
  exact congrArg some this
 ·rw [List.getElem?_eq_none (by exact Oz.o835 hl q),List.getElem?_eq_none q]; rfl
theorem Nw (s:K.Pairwise (·<·)) (hN:N∈K):N∈ay (w^0) Option.none K:=by
 rw [Int.pow_zero]
 exact u7 (by decide) s ⟨hN,fun y ζ q=>by rw [Int.fdiv_one,Int.fdiv_one]; exact q⟩
noncomputable def TPV:Vw:=fun h v=>Oz.E2 fun q vs=>v=.ref q∧h[q]?=some (.tup vs)
theorem yh (z:Zz w H W) (L:La h i d k w H K) (hN:N∈K):∃ h',ae G W (n+6) 37 [.ref i,.int N] h=.ok (.bool true) h'∧Ex [] h h' := by
 have lp:0<K.length:=List.length_pos_of_mem hN
 have hl:=kq (K:=K) (m:=K.length - 1) (by exact Oz.o723 lp)
 refine Oz.z fun ζ η=>?_
 obtain⟨M,hM⟩:∃ M,M=K.getD (K.length - 1) 0:=⟨_,rfl⟩
 rw [← hM] at hl
 have NM:¬ M<N:=fun q=>by
  obtain⟨p,hp⟩:=List.mem_iff_getElem?.mp hN
  have:=(jg L.kp.srt hp).hi (K.length - 1) M (by have:=(Oz.g4.mp hp).1; exact Oz.o35 this) hl
  exact Oz.o379 q this
 have ec:((K.length - 1:Nat):Int)=(K.length:Int) - 1:=by exact Oz.o836 lp
 have hm1:∀ {h' : HP},La h' i d k w H K→∀ t2 t3,ev G (ae G W (n+5)) (.bin .sub (.attr (.loc 0) 3) (.int 1)) [some (.ref i),some (.int N),t2,t3] h'=.ok (.int ((K.length:Int) - 1)) h' := fun L' t2 t3=>aq (L'.ea rfl rfl) ai fj
 obtain⟨q,vs,h1,e1,q1,ne,x1,_⟩:=Ez (n:=n) (lo:=0) z L hl (Nat.zero_le _)
 rw [ec] at e1
 obtain⟨h2,hh2⟩:∃ h2:HP,h2=h1++[.list []]:=⟨_,rfl⟩
 have x2:Ex [] h1 h2:=hh2 ▸ Ex.app
 have q2:h2[h1.length]?=some (.list []):=by rw [hh2]; exact ak
 have L2:=(L.ex0 x1).ex0 x2
 have e2:=Af (W:=W) (n:=n+4) g.at_ L2.toLad hl
 rw [ec] at e2
 have ce:=qc (x2.get q1 Oz.g0) q2
 rw [show vs.isEmpty=false by cases vs with | nil=>exact absurd rfl ne | cons=>rfl] at ce
 have t1:ev G (ae G W (n+5)) (.cmp .eq (.meth (.loc 0) 16 (.cons (.bin .sub (.attr (.loc 0) 3) (.int 1)) .nil)) (.list .nil)) [some (.ref i),some (.int N),Option.none,Option.none] h=.ok (.bool false) h2:=by
  refine az (L.em rfl g.m16 (ag (hm1 L _ _) aj) e1) (b3 aj rfl) ?_
  rw [← hh2]; exact ce
 have t2:=az (gf (G:=G) (cl:=ae G W (n+5)) (l:=[some (.ref i),some (.int N),Option.none,Option.none]) (a:=.loc 0) (m:=15) (aa rfl) L2.inst g.m15 L2.flds (ag (hm1 L2 _ _) aj) e2) (b:=.loc 1) (aa rfl) mr
 rw [decide_eq_false NM] at t2
 obtain⟨q3,xs,h3,e3,x3,_,g3,r3,_⟩:=jv (α:=Nat) (lo:=0) (g:=Option.none) (G:=G) (cl:=ae G W (n+5)) (l:=[some (.ref i),some (.int N),Option.none,Option.none]) (elt:=.loc 4) (cond:=.isin false (.loc 1) (.meth (.loc 0) 9 (.cons (.loc 4) .nil))) (ik:=.range1) (e:=fun j=>AV.int (j:Int)) (p:=fun lv=>decide (N∈ay (w^lv) Option.none K)) (V:=fun lv=>One (.int (lv:Int))) (L:=List.range (H+1))
  (ag (a:=.bin .add (.attr (.loc 0) 1) (.int 1)) (aq (L2.ea rfl rfl) ai b8) aj) Ex.refl (um z.h12) (by have:=z.h12; simp; exact Oz.o837 this) (Nat.zero_le _) (fun ζ ζ=>rfl)
  (fun lv hlv h' x=>by
   have L' := L2.ex0 x
   obtain⟨gb,el⟩:=pj (W:=W) (n:=n+2) (lv:=lv) g.power g.thinned g.level L'.toLad (L'.ok z) (by have:=List.mem_range.mp hlv; exact Oz.o313 this)
   have ei:=ju (t:=false) (n:=N) (h:=h'++.list ((ay (w^lv) Option.none K).map .int)::gb) (i:=h'.length) ak
   rw [Bool.false_xor] at ei
   exact⟨_,ii (aa rfl) (L'.em rfl g.m9 (es1 rfl) el) ei,Ex.app,fun ζ=>⟨_,_,aa rfl,Ex.refl,cy⟩⟩)
 obtain⟨lv,hlv⟩:∃ lv,lv=(List.range (H+1)).filter fun lv=>decide (N∈ay (w^lv) Option.none K):=⟨_,rfl⟩
 rw [← hlv] at r3
 have hxs:=pi r3
 have L3:=L2.ex0 x3
 have lz:lv.length≤13:=by rw [hlv]; refine Oz.g2 (List.length_filter_le _ _) ?_; have:=z.h12; simp; exact Oz.o838 this
 obtain⟨q4,ys,h4,e4,x4,_,g4,r4,_⟩:=jv (α:=Nat) (lo:=0) (g:=some (q3,.list xs)) (G:=G) (cl:=ae G W (n+5)) (l:=[some (.ref i),some (.int N),some (.ref q3),Option.none]) (elt:=.meth (.loc 0) 10 (.cons (.loc 4) (.cons (.loc 1) .nil))) (cond:=.bool true) (ik:=.val) (e:=fun j=>AV.int (j:Int)) (p:=fun ζ=>true) (V:=fun ζ=>TPV) (L:=lv)
  (ag (a:=.loc 2) (aa rfl) aj) Ex.refl (by rw [← hxs]; exact bw g3) (by exact Oz.o839 lz) (Nat.zero_le _) (fun h' x=>b4 (x.get g3 Oz.g0))
  (fun m hm h' x=>⟨h',jc,Ex.refl,fun ζ=>by
   have L' := L3.ex0 x
   rw [hlv] at hm
   refine Oz.z fun ζ1 η1=>?_
   obtain⟨m1,m2⟩:=Oz.g25.mp hm
   obtain⟨q,vs,h5,e5,t5,x5,_⟩:=Ag (n:=n+1) (lo:=0) z L' (lv:=m) (by have:=List.mem_range.mp m1; exact Oz.o313 this) (of_decide_eq_true m2)
   refine η1 ?_
   exact⟨_,h5,L'.em rfl g.m10 (es2 rfl rfl) e5,x5,fun h'' k=>⟨q,vs,rfl,k.tup _ _ t5⟩⟩⟩)
 rw [List.filter_eq_self.mpr (fun ζ ζ=>rfl)] at r4
 have yl:ys.length=lv.length:=by rw [r4.len,Oz.g13]
 have y0:ys≠[]:=fun q=>by
  have:0∈lv:=by rw [hlv]; exact Oz.g25.mpr ⟨by simp,decide_eq_true (Nw L.kp.srt hN)⟩
  have:=List.length_pos_of_mem this
  rw [q] at yl; simp at yl; exact Oz.o840 yl this
 obtain⟨h5,hh5⟩:∃ h5:HP,h5=h4++[.list []]:=⟨_,rfl⟩
 have x5:Ex [] h4 h5:=hh5 ▸ Ex.app
 have q5:h5[h4.length]?=some (.list []):=by rw [hh5]; exact ak
 have g5:=x5.get g4 Oz.g0
 have cn:=zb g5 q5
 rw [show ys.isEmpty=false by cases ys with | nil=>exact absurd rfl y0 | cons=>rfl] at cn
 obtain⟨q6,ws,h6,e6,x6,_,g6,r6,_⟩:=jv (α:=AV) (lo:=0) (g:=some (q4,.list ys)) (G:=G) (cl:=ae G W (n+5)) (l:=[some (.ref i),some (.int N),some (.ref q3),some (.ref q4)]) (elt:=.isinst (.loc 4) .tup) (cond:=.bool true) (ik:=.val) (e:=fun v=>v) (p:=fun ζ=>true) (V:=fun ζ=>One (.bool true)) (L:=ys)
  (ag (a:=.loc 3) (aa rfl) aj) Ex.refl (by rw [List.map_id']; exact bw g5) (by exact Oz.o841 lz yl) (Nat.zero_le _) (fun h' x=>b4 (x.get g5 Oz.g0))
  (fun v hv h' x=>⟨h',jc,Ex.refl,fun ζ=>by
   refine Oz.z fun ζ2 η2=>?_
   obtain⟨j,hj⟩:=List.mem_iff_getElem?.mp hv
   have jl:=(Oz.g4.mp hj).1
   obtain⟨q,vs,rfl,hq⟩:=(r4.all j v TPV hj (by rw [Oz.g12,Oz.g10 (by exact Oz.o607 yl jl)]; rfl)).now
   refine η2 ?_
   exact⟨_,h',Kt (aa rfl) (x.get (x5.get hq Oz.g0) Oz.g0),Ex.refl,cy⟩⟩)
 refine η ?_
 rw [List.filter_eq_self.mpr (fun ζ ζ=>rfl)] at r6
 have hws:=pi (f:=fun ζ=>AV.bool true) r6
 rw [hws] at g6
 have t3:ev G (ae G W (n+5)) (.cmp .ne (.loc 3) (.list .nil)) [some (.ref i),some (.int N),some (.ref q3),some (.ref q4)] h4=.ok (.bool true) h5:=by
  refine az (aa rfl) (b3 aj rfl) ?_
  rw [← hh5]; exact cn
 exact⟨h6,bj g.isThere rfl (av (Nt (af (ap (eu t1 t2) ah) (af (am e3) (af (am e4) (av (bi (b5 t3 (b7 e6 (Nq g6)))))))))),x1.trans (x2.trans (x3.trans (x4.trans (x5.trans x6))))⟩
end
end N14
end Sk
set_option autoImplicit false
namespace Sk
namespace N14
noncomputable def sl (L:List Int) (oa ob:Option Int) (st:Nat):List Int:=(bz oa ob st L.length).filterMap (L[·]?)
section
variable {h:HP}{q:Nat}{L:List Int}{lo hi:AV}{oa ob:Option Int}{st:Nat}{x:Int}
theorem zw:(sl L oa ob st).length≤L.length:=Oz.g2 (List.length_filterMap_le _ _) (Fx oa ob st L.length).2
theorem iw (hlo:gv lo=some oa) (hhi:gv hi=some ob) (hq:h[q]?=some (.list (L.map .int))∨h[q]?=some (.const (L.map .int))) (hz:L.length≤9999):io (.ref q) lo hi st h=.ok (.ref h.length) (h++[.list ((sl L oa ob st).map .int)]):=by
 have e:ly (L.map AV.int) lo hi st=some ((sl L oa ob st).map .int):=by
  unfold ly sl
  rw [hlo,hhi,← qa,Oz.g13]
 have z:cb ((sl L oa ob st).map AV.int).length=true:=decide_eq_true (by rw [Oz.g13]; have:=zw (L:=L) (oa:=oa) (ob:=ob) (st:=st); exact Oz.o741 hz this)
 unfold io
 dsimp only
 rcases hq with hq | hq
 ·rw [hq]
  dsimp only
  rw [e]
  exact if_pos z
 ·rw [hq]
  dsimp only
  rw [e]
  exact if_pos z
theorem Ec (s:L.Pairwise (·<·)):(sl L oa ob st).Pairwise (·<·):=by
 unfold sl
 rw [List.pairwise_filterMap]
 refine(Fx oa ob st L.length).1.imp fun {a b} hab x hx y hy=>?_
 refine Oz.z fun ζ η=>?_
 obtain⟨l1,rfl⟩:=Oz.g4.mp hx
 obtain⟨l2,rfl⟩:=Oz.g4.mp hy
 refine η ?_
 exact Oz.g30.mp s a b l1 l2 hab
theorem rn:x∈sl L oa ob st↔∃ j,j∈bz oa ob st L.length∧L[j]?=some x:=List.mem_filterMap
theorem Eb (hx:x∈sl L oa ob st):x∈L:=by
 obtain⟨j,_,e⟩:=rn.mp hx
 exact Oz.g16 e
theorem uu:sl L oa ob 0=(L.drop (oa.elim 0 (PySem.clipAt L.length))).take (ob.elim L.length (PySem.clipAt L.length) - oa.elim 0 (PySem.clipAt L.length)):=by
 unfold sl bz
 rw [if_pos rfl,PySem.sliceBounds_plain]
 dsimp only
 rw [PySem.sliceRange_one]
 have:=PySem.pick_run L.toArray (oa.elim 0 (PySem.clipAt L.length)) (ob.elim L.length (PySem.clipAt L.length) - oa.elim 0 (PySem.clipAt L.length))
 simpa using this
theorem B5 (m:Nat):sl L (some (m:Int)) Option.none 0=L.drop m:=by
 rw [uu]
 simp only [Option.elim,PySem.clipAt_nat]
 rw [List.take_of_length_le (by rw [List.length_drop]; exact Oz.g3 _)]
 rcases Nat.le_total m L.length with q | q
 ·rw [Nat.min_eq_left q]
 ·rw [Nat.min_eq_right q,List.drop_of_length_le q,List.drop_length]
theorem wp (m:Nat):sl L Option.none (some (m:Int)) 0=L.take m:=by
 rw [uu]
 simp only [Option.elim,PySem.clipAt_nat,List.drop_zero,Nat.sub_zero]
 rcases Nat.le_total m L.length with q | q
 ·rw [Nat.min_eq_left q]
 ·rw [Nat.min_eq_right q,List.take_length,List.take_of_length_le q]
theorem Lk (a b:Nat):(sl L (some (a:Int)) (some (b:Int)) 0).length≤b - a:=by
 rw [uu]
 simp only [Option.elim,PySem.clipAt_nat]
 refine Oz.g2 (List.length_take_le _ _) ?_
 exact Oz.o851
theorem mx (n:Nat):n=0∨(0<n∧max (0:Int) (min 1 n)=1):=by
 cases n with
 | zero=>exact .inl rfl
 | succ m=>exact .inr ⟨Nat.succ_pos m,by rw [Int.min_eq_left (show(1:Int)≤(m+1:Nat) from Int.ofNat_le.mpr (Nat.succ_pos m))]; rfl⟩
theorem F7 (n j:Nat):j∈bz Option.none Option.none 2 n↔j<n∧j % 2=0:=by
 unfold bz PySem.sliceRange PySem.sliceBounds
 simp
 constructor
 ·rintro⟨a,h1,rfl⟩
  split at h1
  ·exact⟨Oz.o852 h1,Nat.mul_mod_right 2 a⟩
  ·exact absurd h1 (Int.not_lt.mpr (Int.natCast_nonneg a))
 ·rintro⟨h1,h2⟩
  exact⟨j / 2,by rw [if_pos (Nat.lt_of_le_of_lt (Nat.zero_le _) h1)]; exact Oz.o854 h1,Nat.mul_div_cancel' (Nat.dvd_of_mod_eq_zero h2)⟩
theorem Fy (n j:Nat):j∈bz (some 1) Option.none 2 n↔j<n∧j % 2=1:=by
 unfold bz PySem.sliceRange PySem.sliceBounds
 simp
 rcases mx n with rfl | ⟨p,e⟩
 ·exact⟨fun⟨a,h1,_⟩=>absurd h1 (Int.not_lt.mpr (Int.natCast_nonneg a)),fun h=>absurd h.1 (Nat.not_lt_zero _)⟩
 ·rw [e]
  constructor
  ·rintro⟨a,h1,rfl⟩
   split at h1
   ·exact⟨Oz.o857 h1,Nat.add_mul_mod_self_left 1 2 a⟩
   ·exact absurd h1 (Int.not_lt.mpr (Int.natCast_nonneg a))
  ·rintro⟨h1,h2⟩
   have hd:=Nat.div_add_mod j 2
   rw [h2] at hd
   exact⟨j / 2,by rw [if_pos (show(1:Int)<n from Int.ofNat_lt.mpr (Nat.lt_of_le_of_lt (hd ▸ Nat.le_add_left 1 _) h1))]; exact Oz.o859 h1 hd,(Nat.add_comm _ _).trans hd⟩
end
structure Two (R P Q:List Int):Prop where
 p:P.Pairwise (·<·)
 q:Q.Pairwise (·<·)
 lp:P.length≤R.length
 lq:Q.length≤R.length
 mem:∀ x,x∈R↔x∈P∨x∈Q
 apart:∀ x∈Q,x∉P
section
variable {R P Q:List Int}
theorem Two.swap (t:Two R P Q):Two R Q P:=⟨t.q,t.p,t.lq,t.lp,fun x=>(t.mem x).trans or_comm,fun x a b=>t.apart x b a⟩
theorem Ld (s:R.Pairwise (·<·)):Two R (sl R Option.none Option.none 2) (sl R (some 1) Option.none 2):=by
 refine⟨Ec s,Ec s,zw,zw,fun x=>⟨fun hx=>?_,fun hx=>hx.elim Eb Eb⟩,fun x a b=>?_⟩
 ·obtain⟨j,e⟩:=List.mem_iff_getElem?.mp hx
  have lt:=(Oz.g4.mp e).1
  rcases Nat.mod_two_eq_zero_or_one j with q | q
  ·exact .inl (rn.mpr ⟨j,(F7 _ _).mpr ⟨lt,q⟩,e⟩)
  ·exact .inr (rn.mpr ⟨j,(Fy _ _).mpr ⟨lt,q⟩,e⟩)
 ·refine Oz.z fun ζ η=>?_
  obtain⟨j,u,e⟩:=rn.mp a
  obtain⟨j',u',e'⟩:=rn.mp b
  refine η ?_
  have:=(jg s e).same (jg s e')
  have:=(Fy _ _).mp u
  have:=(F7 _ _).mp u'
  exact Oz.o862 ‹_› ‹_› this.2
theorem Lc (s:R.Pairwise (·<·)) (m:Nat):Two R (R.drop m) (R.take m):=by
 refine⟨s.sublist (List.drop_sublist _ _),s.sublist (List.take_sublist _ _),by rw [List.length_drop]; exact Oz.o863,List.length_take_le' _ _,fun x=>?_,fun x a b=>?_⟩
 ·conv=>lhs; rw [← List.take_append_drop m R]
  rw [Oz.g1]
  exact or_comm
 ·have s' := s
  rw [← List.take_append_drop m R] at s'
  exact Int.lt_irrefl x ((List.pairwise_append.mp s').2.2 x a x b)
end
end N14
end Sk
set_option autoImplicit false
namespace Sk
namespace N14
structure Spo (h:HP) (s:Nat) (w:Int) (H:Nat) (s0 s1 s2:Int):Prop where
 at_:h[s]?=some (.list [.int s0,.int s1,.int s2])
 rg:∀ x∈[s1,s2],0≤x∧x<w^H
section
variable {n:Nat}{h h' : HP}{i d k r s f lo hi i2 d2 k2 a b:Nat}{w N c v x u:Int}{H:Nat}{K K2:List Int}{l:LOC}{cl:CallO}{s0 s1 s2:Int}{V:Vw}{x1 x2:AV}
theorem Spo.ex0 (p:Spo h s w H s0 s1 s2) (x:Ex [] h h'):Spo h' s w H s0 s1 s2:=⟨x.get p.at_ Oz.g0,p.rg⟩
theorem Spo.exL (p:Spo h s w H s0 s1 s2) (L:Lad h i d k w H K) (x:Ex [d,k] h h') (sk:s≠k):Spo h' s w H s0 s1 s2:=⟨bu p.at_ L x sk,p.rg⟩
theorem j8 (z:Zz w H W) (L:La h i d k w H K) (p:Spo h s w H s0 s1 s2) (ha:l[a]?=some (some (.ref i))) (hb:l[b]?=some (some (.ref s))) :
  Oz.E2 fun q h'=>ev G (ae G W (n+6)) (.call 28 (.cons (.loc a) (.cons (.loc b) .nil))) l h=.ok (.ref q) h'∧Ex [] h h'∧Sta (TO w H K s0 s1 s2) (.ref q) h.length h'.length h' := by
 refine Oz.z fun ζ η=>?_
 obtain⟨q,h',e,x,st⟩:=vp (n:=n) z L p.at_ p.rg
 refine η ?_
 exact⟨q,h',ax (ag (aa ha) (ag (aa hb) aj)) e,x,st⟩
theorem Iw (p:TO w H K s0 s1 s2 h x1) (q:TO w H K s0 s1 s2 h x2):cj .eq x1 x2 h=.ok (.bool true) h:=Jb (I7.eq p q (Oz.g3 6))
theorem zg (p:TO w H K s0 s1 s2 h x1) (q:TO w H K s0 s1 s2 h x2):cj .ne x1 x2 h=.ok (.bool false) h:=Dz (I7.eq p q (Oz.g3 6))
theorem Sta.then0 (t:Sta V x1 lo hi h) (hl:hi≤h.length) (x:Ex [] h h'):V h' x1:=(t.ex0 x hl).now
theorem j9 (z:Zz w H W) (L:La h i d k w H K) (p:Spo h s w H s0 s1 s2) (ha:l[a]?=some (some (.ref i))) (hb:l[b]?=some (some (.ref s))){e:Nat}(he:l[e]?=some (some x1)) (st:Sta (TO w H K s0 s1 s2) x1 lo hi h) (hl:hi≤h.length) :
  ∃ h',ev G (ae G W (n+6)) (.cmp .eq (.call 28 (.cons (.loc a) (.cons (.loc b) .nil))) (.loc e)) l h=.ok (.bool true) h'∧ev G (ae G W (n+6)) (.cmp .ne (.call 28 (.cons (.loc a) (.cons (.loc b) .nil))) (.loc e)) l h=.ok (.bool false) h'∧Ex [] h h' := by
 refine Oz.z fun ζ η=>?_
 obtain⟨q,h',e1,x,st'⟩:=j8 (n:=n) z L p ha hb
 refine η ?_
 exact⟨h',az e1 (aa he) (Iw st'.now (st.then0 hl x)),az e1 (aa he) (zg st'.now (st.then0 hl x)),x⟩
theorem wg (z:Zz w H W) (L:La h i d k w H K) (L2:La h i2 d2 k2 w H K) (p:Spo h s w H s0 s1 s2) (ha:l[a]?=some (some (.ref i))) (hb:l[b]?=some (some (.ref s))){e:Nat}(he:l[e]?=some (some (.ref i2))) :
  ∃ h',ev G (ae G W (n+6)) (.cmp .eq (.call 28 (.cons (.loc a) (.cons (.loc b) .nil))) (.call 28 (.cons (.loc e) (.cons (.loc b) .nil)))) l h=.ok (.bool true) h'∧ev G (ae G W (n+6)) (.cmp .ne (.call 28 (.cons (.loc a) (.cons (.loc b) .nil))) (.call 28 (.cons (.loc e) (.cons (.loc b) .nil)))) l h=.ok (.bool false) h'∧Ex [] h h' := by
 refine Oz.z fun ζ η=>?_
 obtain⟨q,h1,e1,x1,t1⟩:=j8 (n:=n) z L p ha hb
 obtain⟨q2,h2,e2,x2,t2⟩:=j8 (n:=n) z (L2.ex0 x1) (p.ex0 x1) he hb
 refine η ?_
 exact⟨h2,az e1 e2 (Iw (t1.then0 (Oz.g3 _) x2) t2.now),az e1 e2 (zg (t1.then0 (Oz.g3 _) x2) t2.now),x1.trans x2⟩
theorem Mj (z:Zz w H W):2≤w^H:=by
 have h1:=z.h1
 obtain⟨m,rfl⟩:∃ m,H=m+1:=⟨H - 1,by exact Oz.o170 h1⟩
 have a:=(pk (k:=m) z.w2 z.w9 (by have:=z.h12; exact Oz.o827 this)).1
 have b:=Int.mul_le_mul a z.w2 (by decide) (by exact Oz.o358 a)
 rw [Int.pow_succ]
 exact Oz.o828 b
noncomputable abbrev hl7 (i r s:Nat) (t3 t4 t5 t6:Option AV):LOC:=[some (.ref i),some (.ref r),some (.ref s),t3,t4,t5,t6]
noncomputable def Dq:CS:=(.seq (.ite (.and (.cmp .lt (.loc 4) (.attr (.loc 0) 2)) (.and (.isin true (.loc 4) (.loc 1)) (.not (.meth (.loc 3) 5 (.cons (.loc 4) .nil))))) (.seq (.ex (.meth (.loc 3) 6 (.cons (.loc 4) .nil))) .skip) .skip) .skip)
set_option tactic.hygienic true in
theorem Gc {q i3 d3 k3:Nat}{K3 xs:List Int}(z:Zz w H W) (L:La h i d k w H K) (M:La h i3 d3 k3 w H K3) (nd:d≠d3) (nk:k≠k3) (hr:h[r]?=some (.list (K.map .int))) (rk:r≠k3) (hN:N∈K3) (l3:K3.length≤1) (hx:∀ x∈xs,0≤x) (lx:xs.length≤6) (hq:h[q]?=some (.list (xs.map .int))) (qk:q≠k3) :
  Oz.E3 fun K' t h'=>du (some (q,.list (xs.map .int))) (fun v ζ l' h'=>exec G (ae G W (n+3)) W Dq (l'.set 4 (some v)) h') (xs.map .int) 0 (hl7 i r s (some (.ref i3)) Option.none Option.none Option.none) h=.next (hl7 i r s (some (.ref i3)) t Option.none Option.none) h'∧La h' i3 d3 k3 w H K'∧N∈K'∧Ex [d3,k3] h h' := by
 have loop:=di (g:=some (q,.list (xs.map .int))) (step:=fun v ζ l' h'=>exec G (ae G W (n+3)) W Dq (l'.set 4 (some v)) h')
  (fun j l' h'=>Oz.E2 fun K' t=>l'=hl7 i r s (some (.ref i3)) t Option.none Option.none∧La h' i3 d3 k3 w H K'∧N∈K'∧K'.length≤1+j∧Ex [d3,k3] h h') (xs.map .int) 0 (hl7 i r s (some (.ref i3)) Option.none Option.none Option.none) h
  ⟨K3,_,rfl,M,hN,by exact Oz.o829 l3,Ex.refl⟩
  (fun j v l' h' hj hI=>by
   rw [Nat.zero_add] at hI ⊢
   refine Oz.z fun ζ η=>?_
   obtain⟨K',t,rfl,M',hN',hl,ex⟩:=hI
   rw [Oz.g12] at hj
   obtain⟨x,hx',rfl⟩:=Oz.g11.mp hj
   refine η ?_
   have lt:=(Oz.g4.mp hx').1
   have x0:=hx x (Oz.g16 hx')
   have og:=b4 (bu hq M.toLad ex qk)
   have L' := L.exL M.toLad ex nd nk
   have hr' := bu hr M.toLad ex rk
   have t1:ev G (ae G W (n+3)) (.cmp .lt (.loc 4) (.attr (.loc 0) 2)) (hl7 i r s (some (.ref i3)) (some (.int x)) Option.none Option.none) h'=.ok (.bool (decide (x<w^H))) h' := az (aa rfl) (L'.ea rfl rfl) mr
   have stay:ev G (ae G W (n+3)) (.and (.cmp .lt (.loc 4) (.attr (.loc 0) 2)) (.and (.isin true (.loc 4) (.loc 1)) (.not (.meth (.loc 3) 5 (.cons (.loc 4) .nil))))) (hl7 i r s (some (.ref i3)) (some (.int x)) Option.none Option.none) h'=.ok (.bool false) h'→okG (some (q,.list (xs.map .int))) h'=true∧Oz.E2 fun l'' h''=>exec G (ae G W (n+3)) W Dq (hl7 i r s (some (.ref i3)) (some (.int x)) Option.none Option.none) h'=.next l'' h''∧Oz.E2 fun K' t=>l''=hl7 i r s (some (.ref i3)) t Option.none Option.none∧La h'' i3 d3 k3 w H K'∧N∈K'∧K'.length≤1+(j+1)∧Ex [d3,k3] h h'' := fun e =>
    ⟨og,_,h',af (ap e ah) ah,K',_,rfl,M',hN',by exact Oz.o830 hl,ex⟩
   by_cases c1:x<w^H
   ·rw [decide_eq_true c1] at t1
    have t2:=ju (t:=true) (n:=x) hr'
    have hs:=ua (W:=W) (n:=n+1) (v:=x) g.has g.need g.m1 M'.toLad x0 c1
    by_cases c2:x∈K
    ·rw [decide_eq_true c2] at t2
     exact stay (b5 t1 (ij (ii (aa rfl) (aa rfl) t2)))
    ·rw [decide_eq_false c2] at t2
     by_cases c3:x∈K'
     ·rw [decide_eq_true c3] at hs
      exact stay (b5 t1 (b5 (ii (aa rfl) (aa rfl) t2) (dw (M'.em rfl g.m5 (es1 rfl) hs))))
     ·rw [decide_eq_false c3] at hs
      refine Oz.z fun ζ1 η1=>?_
      obtain⟨K4,v,h4,e4,M4,m4,l4,x4,_⟩:=jy (n:=n) z M' (by exact Oz.o831 lx hl lt) x0 c1 c3
      refine η1 ?_
      exact⟨og,_,h4,af (be (b5 t1 (b5 (ii (aa rfl) (aa rfl) t2) (dw (M'.em rfl g.m5 (es1 rfl) hs)))) (af (ca (M'.em rfl g.m6 (es1 rfl) e4)) ah)) ah,K4,_,rfl,M4,(m4 N).mpr (.inr hN'),by exact Oz.o832 hl l4,ex.trans x4⟩
   ·rw [decide_eq_false c1] at t1
    exact stay (ij t1))
  (fun l' h' hI=>by
   refine Oz.z fun ζ2 η2=>?_
   obtain⟨_,_,_,_,_,_,ex⟩:=hI
   refine η2 ?_
   exact b4 (bu hq M.toLad ex qk))
 refine Oz.z fun ζ3 η3=>?_
 obtain⟨l',h',e,K',t,rfl,M',hN',_,ex⟩:=loop
 refine η3 ?_
 exact⟨K',t,h',e,M',hN',ex⟩
end
end N14
end Sk
set_option autoImplicit false
namespace Sk
namespace N14
section
variable {n:Nat}{h h' : HP}{i d k r s f lo hi i2 d2 k2 a b:Nat}{w N c v x u:Int}{H:Nat}{K K2:List Int}{l:LOC}{cl:CallO}{s0 s1 s2:Int}{V:Vw}{x1 x2:AV}
theorem qv {L:List Int}(hr:h[r]?=some (.list (L.map .int))) (ha:l[a]?=some (some (.ref r))):ev G cl (.cmp .eq (.loc a) (.list .nil)) l h=.ok (.bool L.isEmpty) (h++[.list []])∧ev G cl (.cmp .ne (.loc a) (.list .nil)) l h=.ok (.bool (!L.isEmpty)) (h++[.list []]):=by
 have q:(h++[AO.list []])[r]?=some (.list (L.map .int)):=(Ext.app (S:=[])).get hr Oz.g0
 have e1:=qc q (ak (h:=h) (r:=[AO.list []]))
 have e2:=zb q (ak (h:=h) (r:=[AO.list []]))
 rw [show(L.map AV.int).isEmpty=L.isEmpty by cases L <;> rfl] at e1 e2
 exact⟨az (aa ha) (b3 aj rfl) e1,az (aa ha) (b3 aj rfl) e2⟩
theorem Cj (hr:h[r]?=some (.list (K.map .int))):fw .len [.ref r] h=.ok (.int (K.length:Nat)) h:=by
 have:=kf hr
 rwa [Oz.g13] at this
theorem Bf {e:CE}(hr:h[r]?=some (.list (K.map .int))) (ha:l[a]?=some (some (.ref r))) (he:ev G cl e l h=.ok (.int v) h) (hK:K≠[]) (few:K.length≤99):∃ N,N∈K∧ev G cl (.item (.loc a) (.bin .mod e (.bf .len (.cons (.loc a) .nil)))) l h=.ok (.int N) h:=by
 have lp:0<K.length:=List.length_pos_iff.mpr hK
 have fm:=fm v K.length (by exact Oz.o480 lp)
 obtain⟨m,hm⟩:∃ m,m=(v.fmod K.length).toNat:=⟨_,rfl⟩
 have em:v.fmod K.length=((m:Nat):Int):=by exact Oz.o872 fm.1 hm
 have hN:=kq (K:=K) (m:=m) (by exact Oz.o848 fm.2 em)
 have e2:=aq he (b7 (aa ha) (Cj hr)) (fy (je (b:=(K.length:Int)) (by exact Oz.o481 lp) (by exact Oz.o849 few)))
 rw [em] at e2
 exact⟨_,Oz.g16 hN,bc (aa ha) e2 (bh hr (by rw [Oz.g12,hN]; rfl))⟩
theorem Ma (z:Zz w H W) (L:La h i d k w H K) (p:Spo h s w H s0 s1 s2) (hr:h[r]?=some (.list (K.map .int))):∃ h',ae G W (n+7) 32 [.ref i,.ref r,.ref s] h=.ok (.bool true) h'∧Ex [] h h' := by
 obtain⟨t1,_⟩:=qv (cl:=ae G W (n+6)) (l:=hl7 i r s Option.none Option.none Option.none Option.none) (a:=1) hr rfl
 have x1:Ex [] h (h++[.list []]):=Ex.app
 by_cases hK:K=[]
 ·subst hK
  exact⟨_,bj g.half rfl (av (be t1 (av (bi jc)))),x1⟩
 rw [show K.isEmpty=false by cases K with | nil=>exact absurd rfl hK | cons=>rfl] at t1
 refine Oz.z fun ζ η=>?_
 obtain⟨h1,hh1⟩:∃ h1:HP,h1=h++[.list []]:=⟨_,rfl⟩
 rw [← hh1] at t1 x1
 have L1:=L.ex0 x1
 obtain⟨h2,e2,M2,x2⟩:=n9 (h:=h1) (n:=n+4) (l:=hl7 i r s Option.none Option.none Option.none Option.none) (ea:=.attr (.loc 0) 0) (eb:=.attr (.loc 0) 1) z (L1.ea rfl rfl) (L1.ea rfl rfl)
 have x12:=x1.trans x2
 have L2:=L.ex0 x12
 have hr2:=x12.get hr Oz.g0
 have p2:=p.ex0 x12
 obtain⟨N,hN,eN⟩:=Bf (cl:=ae G W (n+6)) (l:=hl7 i r s (some (.ref (h1.length+1))) Option.none Option.none Option.none) (a:=1) (e:=.item (.loc 2) (.int 0)) hr2 rfl (bc (aa rfl) ai (bh (k:=0) p2.at_ rfl)) hK L.few
 obtain⟨n0,n1⟩:=L.kp.rng N hN
 obtain⟨K3,v3,h3,e3,M3,m3,l3,x3,_⟩:=jy (n:=n+3) z M2 (Nat.zero_le _) n0 n1 Oz.g0
 have ld:=au L1.flds
 have lk:=au L1.list
 have lr:=au hr
 have ls:=au p.at_
 have lx:=x1.len
 have lx2:=x2.len
 have lm:=au M2.list
 have x23:Ex [] h1 h3:=x2.fresh x3 (fun t ht=>.inr (by simp at ht; exact Oz.o804 ht))
 have x03:=x1.trans x23
 have L3:=L.ex0 x03
 have lim:=Mj z
 obtain⟨xs,hxs⟩:∃ xs,xs=[0,1,2,(w^H).fdiv 2,w^H - 2,w^H - 1]:=⟨_,rfl⟩
 obtain⟨h4,hh4⟩:∃ h4:HP,h4=h3++[.list (xs.map .int)]:=⟨_,rfl⟩
 have x4:Ex [] h3 h4:=hh4 ▸ Ex.app
 have q4:h4[h3.length]?=some (.list (xs.map .int)):=by rw [hh4]; exact ak
 have el:=b3 (ag (G:=G) (cl:=ae G W (n+6)) (h:=h3) (l:=hl7 i r s (some (.ref (h1.length+1))) Option.none Option.none Option.none) (a:=.int 0) ai (ag (a:=.int 1) ai (ag (a:=.int 2) ai (ag (a:=.bin .fdiv (.attr (.loc 0) 2) (.int 2)) (aq (L3.ea rfl rfl) ai (et (by decide))) (ag (a:=.bin .sub (.attr (.loc 0) 2) (.int 2)) (aq (L3.ea rfl rfl) ai fj) (ag (a:=.bin .sub (.attr (.loc 0) 2) (.int 1)) (aq (L3.ea rfl rfl) ai fj) aj)))))) rfl
 have el:ev G (ae G W (n+6)) _ _ h3=.ok (.ref h3.length) (h3++[.list (([0,1,2,(w^H).fdiv 2,w^H - 2,w^H - 1]:List Int).map .int)]):=el
 rw [← hxs,← hh4] at el
 have c3:=x3.len
 obtain⟨K5,t5,h5,e5,M5,hN5,x5⟩:=Gc (n:=n+3) (N:=N) (s:=s) (q:=h3.length) z (L3.ex0 x4) (M3.ex0 x4) (by exact Oz.o167 ld) (by exact Oz.o809 lk) (x4.get (x03.get hr Oz.g0) Oz.g0) (by exact Oz.o873 lr lx) ((m3 N).mpr (.inl rfl)) (by rw [l3]; exact Oz.g3 _) (fun x hx=>by
  rw [hxs] at hx
  simp only [Oz.g6,Oz.g0,or_false] at hx
  rcases hx with rfl | rfl | rfl | rfl | rfl | rfl
  ·exact Oz.o768
  ·exact Oz.o874
  ·exact Oz.o875
  ·exact Int.fdiv_nonneg (by exact Oz.o181 lim) (by exact Oz.o875)
  ·exact Oz.o876 lim
  ·exact Oz.o877 lim) (by rw [hxs]; exact Oz.g3 _) q4 (by exact Oz.o878 lm c3)
 have x35:Ex [] h1 h5:=(x23.trans x4).fresh x5 (fun t ht=>.inr (by simp at ht; exact Oz.o804 ht))
 have x05:=x1.trans x35
 have L5:=L.ex0 x05
 have p5:=p.ex0 x05
 obtain⟨q6,h6,e6,x6,s6⟩:=j8 (n:=n) (l:=hl7 i r s (some (.ref (h1.length+1))) t5 Option.none Option.none) (a:=0) (b:=2) z L5 p5 rfl rfl
 have L6:=L5.ex0 x6
 have M6:=M5.ex0 x6
 obtain⟨q7,h7,e7,x7,s7⟩:=j8 (n:=n) (l:=hl7 i r s (some (.ref (h1.length+1))) t5 (some (.ref q6)) Option.none) (a:=3) (b:=2) z M6 (p5.ex0 x6) rfl rfl
 have L7:=L6.ex0 x7
 have M7:=M6.ex0 x7
 obtain⟨ha,ea,xa⟩:=oo (n:=n+1) L7 M7 ⟨N,hN5,hN⟩
 obtain⟨h8,e8,x8⟩:=tz ea xa
 have L8:=L7.ex0 x8
 have M8:=M7.ex0 x8
 obtain⟨hb,eb,xb⟩:=oo (n:=n+1) M8 L8 ⟨N,hN,hN5⟩
 obtain⟨h9,e9,x9⟩:=tz eb xb
 have x79:=x8.trans x9
 have L9:=L8.ex0 x9
 have M9:=M8.ex0 x9
 have p9:=((p5.ex0 x6).ex0 x7).ex0 x79
 obtain⟨h10,e10,_,x10⟩:=j9 (n:=n) (l:=hl7 i r s (some (.ref (h1.length+1))) t5 (some (.ref q6)) (some (.ref q7))) (a:=0) (b:=2) (e:=5) z L9 p9 rfl rfl rfl ((s6.ex0 x7 (Oz.g3 _)).ex0 x79 x7.len) (Oz.g2 x7.len x79.len)
 obtain⟨h11,e11,_,x11⟩:=j9 (n:=n) (l:=hl7 i r s (some (.ref (h1.length+1))) t5 (some (.ref q6)) (some (.ref q7))) (a:=3) (b:=2) (e:=6) z (M9.ex0 x10) (p9.ex0 x10) rfl rfl rfl (s7.ex0 (x79.trans x10) (Oz.g3 _)) (x79.trans x10).len
 refine η ?_
 have c2:∀ h' : HP,cj .ne (.int 2) (.int 2) h'=.ok (.bool false) h' := fun ζ=>rfl
 exact⟨h11,bj g.half rfl (af (ap t1 ah) (af (am e2) (af (ca (M2.em rfl g.m6 (ag eN aj) e3)) (af (ft (ag el aj) (bw q4) e5) (af (am e6) (af (am e7)
  (af (ap (eu (az (ax (es2 rfl rfl) e8) ai (c2 _)) (az (ax (es2 rfl rfl) e9) ai (c2 _))) ah) (av (bi (b5 e10 e11))))))))))  ,x05.trans (x6.trans (x7.trans (x79.trans (x10.trans x11))))⟩
end
end N14
end Sk
set_option autoImplicit false
namespace Sk
namespace N14
section
variable {n:Nat}{h h' : HP}{i d k r s q f lo hi i2 d2 k2 a b:Nat}{w N c v x u:Int}{H:Nat}{K K2 M:List Int}{l:LOC}{cl:CallO}{s0 s1 s2:Int}{V:Vw}{x1 x2:AV}
theorem Fu {vs:List AV}(hq:h[q]?=some (.tup vs)):bp .val [.ref q] h=some (vs,some (q,.tup vs)):=by
 show(match h[q]? with | some (.list vs)=>some (vs,some (q,AO.list vs)) | some (.tup vs)=>some (vs,some (q,AO.tup vs)) | _=>Option.none)=_
 rw [hq]
theorem Bq {i j:Nat}{xs ys:List Int}(hi:h[i]?=some (.list (xs.map .int))) (hj:h[j]?=some (.list (ys.map .int))) (hz:xs.length+ys.length≤999):li .add (.ref i) (.ref j) h=.ok (.ref h.length) (h++[.list ((xs++ys).map .int)]):=by
 show addL i j h=_
 unfold addL
 rw [hi,hj,List.map_append]
 exact if_pos (decide_eq_true (by rw [Oz.g13,Oz.g13]; exact Oz.o864 hz))
theorem wo (s:K.Pairwise (·<·)) (nm:M.Nodup) (dj:∀ x∈M,x∉K) (s2:K2.Pairwise (·<·)) (mm:∀ x,x∈K2↔x∈K∨x∈M):jf (K++M)=K2 :=
 ur ((List.perm_ext_iff_of_nodup (Oz.g17.mpr ⟨iz s,nm,fun a ha b hb e=>dj b hb (e ▸ ha)⟩) (iz s2)).mpr fun x=>by rw [Oz.g1,mm]) s2
theorem J4 (z:Zz w H W) (L:La h i d k w H K) (few:K.length≤60) (hr:h[r]?=some (.list (K.map .int))) (rk:r≠k):∃ h',ae G W (n+6) 39 [.ref i,.ref r] h=.ok (.bool true) h'∧Ex [d,k] h h' := by
 refine Oz.z fun ζ η=>?_
 obtain⟨h1,hh1⟩:∃ h1:HP,h1=h++[.tup ([0,1].map AV.int)]:=⟨_,rfl⟩
 have x1:Ex [] h h1:=hh1 ▸ Ex.app
 have q1:h1[h.length]?=some (.tup ([0,1].map AV.int)):=by rw [hh1]; exact ak
 have hr1:=x1.get hr Oz.g0
 obtain⟨q2,xs,h2,e2,x2,_,g2,r2,_⟩:=jv (α:=Int) (lo:=0) (g:=some (h.length,.tup ([0,1].map AV.int))) (G:=G) (cl:=ae G W (n+5)) (h:=h) (l:=[some (.ref i),some (.ref r),Option.none]) (elt:=.loc 3) (cond:=.isin true (.loc 3) (.loc 1)) (ik:=.val) (e:=AV.int) (p:=fun x=>!decide (x∈K)) (V:=fun x=>One (.int x)) (L:=[0,1])
  (ag (a:=.tup (.cons (.int 0) (.cons (.int 1) .nil))) (by rw [hh1]; exact j7 (ag ai (ag ai aj)) rfl) aj) x1 (Fu q1) (by decide) (Nat.zero_le _) (fun h' x=>b4 (x.get q1 Oz.g0))
  (fun x ζ h' y=>by
   have e:=ju (t:=true) (n:=x) (y.get hr1 Oz.g0)
   rw [Bool.true_xor] at e
   exact⟨h',ii (aa rfl) (aa rfl) e,Ex.refl,fun ζ=>⟨_,h',aa rfl,Ex.refl,cy⟩⟩)
 obtain⟨F,hF⟩:∃ F,F=([0,1]:List Int).filter fun x=>!decide (x∈K):=⟨_,rfl⟩
 rw [← hF] at r2
 rw [pi r2] at g2
 have fl:F.length≤2:=by rw [hF]; exact List.length_filter_le _ _
 have sF:F.Pairwise (·<·):=by rw [hF]; exact List.Pairwise.sublist List.filter_sublist (by decide)
 have mF:∀ x∈F,(x=0∨x=1)∧x∉K:=fun x hx=>by
  rw [hF] at hx
  obtain⟨a,b⟩:=Oz.g25.mp hx
  exact⟨by simpa using a,by simpa using b⟩
 obtain⟨M,hM⟩:∃ M,M=F.take 1:=⟨_,rfl⟩
 have sM:∀ x∈M,x∈F:=fun x hx=>List.mem_of_mem_take (by rw [hM] at hx; exact hx)
 have so:=iw (st:=0) (lo:=.none) (hi:=.int 1) rfl rfl (.inl g2) (by exact Oz.o865 fl)
 rw [show sl F Option.none (some 1) 0=M by rw [hM]; exact wp 1] at so
 obtain⟨h3,hh3⟩:∃ h3:HP,h3=h2++[.list (M.map .int)]:=⟨_,rfl⟩
 rw [← hh3] at so
 have x3:Ex [] h2 h3:=hh3 ▸ Ex.app
 have q3:h3[h2.length]?=some (.list (M.map .int)):=by rw [hh3]; exact ak
 have x03:=x2.trans x3
 have L3:=L.ex0 x03
 have lim:=Mj z
 have kM:Kept w H M:=⟨by rw [hM]; exact sF.sublist (List.take_sublist _ _),fun y hy=>by
  rcases(mF y (sM y hy)).1 with rfl | rfl <;> exact⟨by decide,Int.lt_of_lt_of_le (by decide) lim⟩⟩
 have lM:M.length≤1:=by rw [hM]; exact List.length_take_le _ _
 obtain⟨i4,d4,k4,h4,e4,N4,x4,ld4,lk4⟩:=ig (n:=n+1) z q3 kM (by exact Oz.o868 lM)
 have L4:=L3.ex0 x4
 obtain⟨K5,h5,e5,L5,m5,x5⟩:=qp (n:=n) z L4 N4 (fun x hx=>(mF x (sM x hx)).2) (by exact Oz.o869 few lM)
 have e5' := wt e5
 have x04:=x03.trans x4
 have lk:=au L3.list
 have hr5:=bu (x04.get hr Oz.g0) L4.toLad x5 rk
 have q5:=bu (x4.get q3 Oz.g0) L4.toLad x5 (by have:=au L.list; have:=x2.len; exact Oz.o747 ‹_› this)
 obtain⟨h6,hh6⟩:∃ h6:HP,h6=h5++[.list (K5.map .int)]:=⟨_,rfl⟩
 have e6:=ni (n:=n+4) L5.toLad
 rw [← hh6] at e6
 have x6:Ex [] h5 h6:=hh6 ▸ Ex.app
 have q6:h6[h5.length]?=some (.list (K5.map .int)):=by rw [hh6]; exact ak
 have e7:=Bq (x6.get hr5 Oz.g0) (x6.get q5 Oz.g0) (by exact Oz.o870 few lM)
 obtain⟨h7,hh7⟩:∃ h7:HP,h7=h6++[.list ((K++M).map .int)]:=⟨_,rfl⟩
 refine η ?_
 rw [← hh7] at e7
 have x7:Ex [] h6 h7:=hh7 ▸ Ex.app
 have q7:h7[h6.length]?=some (.list ((K++M).map .int)):=by rw [hh7]; exact ak
 have e8:=vh q7 (by rw [Oz.g26]; exact Oz.o871 few lM)
 rw [wo L.kp.srt (iz kM.srt) (fun x hx=>(mF x (sM x hx)).2) L5.kp.srt m5] at e8
 have x8:Ex [] h7 (h7++[.list (K5.map .int)]):=Ex.app
 exact⟨_,bj g.mated rfl (af (am (iq e2 cw ai so)) (af (ap (az (ax (ag (aa rfl) (ag (ax (ag (L3.ea rfl rfl) (ag (L3.ea rfl rfl) (es1 rfl))) e4) aj)) e5') ai rfl) ah)
  (av (bi (az (L5.em rfl g.m8 aj e6) (b7 (aq (aa rfl) (aa rfl) e7) e8) (Bm (x8.get (x7.get q6 Oz.g0) Oz.g0) ak)))))),(x04.fresh x5 (fun t ht=>.inl ht)).trans ((x6.trans (x7.trans x8)).up)⟩
end
end N14
end Sk
set_option autoImplicit false
namespace Sk
namespace N14
section
variable {n:Nat}{h h' : HP}{i d k r s q f lo hi i2 d2 k2 a b:Nat}{w N c v x u:Int}{H:Nat}{K K2 M:List Int}{l:LOC}{cl:CallO}{s0 s1 s2:Int}{V:Vw}{x1 x2:AV}
theorem Dr {ea eb ec ed:CE}{va vb vc vd:AV}{oa ob oc od:Option Int}{st st' : Nat}(hr:h[r]?=some (.list (K.map .int))) (few:K.length≤99) (l0:l[0]?=some (some (.ref r))) (ha:∀ h',Ex [] h h'→ev G cl ea l h'=.ok va h') (hb:∀ h',Ex [] h h'→ev G cl eb l h'=.ok vb h') (hc:∀ h',Ex [] h h'→ev G cl ec l h'=.ok vc h') (hd:∀ h',Ex [] h h'→ev G cl ed l h'=.ok vd h')
  (pa:gv va=some oa) (pb:gv vb=some ob) (pc:gv vc=some oc) (pd:gv vd=some od) :
  Oz.E4 fun q a b h'=>ev G cl (.list (.cons (.slice (.loc 0) ea eb st) (.cons (.slice (.loc 0) ec ed st') .nil))) l h=.ok (.ref q) h'∧h'[q]?=some (.list [.ref a,.ref b])∧h'[a]?=some (.list ((sl K oa ob st).map .int))∧h'[b]?=some (.list ((sl K oc od st').map .int))∧Ex [] h h' := by
 have e1:=iw (st:=st) pa pb (.inl hr) (by exact Oz.o879 few)
 obtain⟨h1,hh1⟩:∃ h1:HP,h1=h++[.list ((sl K oa ob st).map .int)]:=⟨_,rfl⟩
 rw [← hh1] at e1
 have x1:Ex [] h h1:=hh1 ▸ Ex.app
 have q1:h1[h.length]?=some (.list ((sl K oa ob st).map .int)):=by rw [hh1]; exact ak
 have e2:=iw (st:=st') pc pd (.inl (x1.get hr Oz.g0)) (by exact Oz.o879 few)
 obtain⟨h2,hh2⟩:∃ h2:HP,h2=h1++[.list ((sl K oc od st').map .int)]:=⟨_,rfl⟩
 rw [← hh2] at e2
 have x2:Ex [] h1 h2:=hh2 ▸ Ex.app
 have q2:h2[h1.length]?=some (.list ((sl K oc od st').map .int)):=by rw [hh2]; exact ak
 have x3:Ex [] h2 (h2++[.list [.ref h.length,.ref h1.length]]):=Ex.app
 exact⟨_,_,_,_,b3 (ag (iq (aa l0) (ha h Ex.refl) (hb h Ex.refl) e1) (ag (iq (aa l0) (hc h1 x1) (hd h1 x1) e2) aj)) rfl,ak,x3.get (x2.get q1 Oz.g0) Oz.g0,x3.get q2 Oz.g0,x1.trans (x2.trans x3)⟩
noncomputable abbrev wl8 (r:Nat) (v:AV) (q s:Nat) (t4 t5 t6 t7:Option AV):LOC:=[some (.ref r),some v,some (.ref q),some (.ref s),t4,t5,t6,t7]
noncomputable def wvA:CS:=(.asg 4 (.list (.cons (.slice (.loc 0) .none .none 2) (.cons (.slice (.loc 0) (.int 1) .none 2) .nil))))
noncomputable def wvB:CS:=(.ite (.cmp .eq (.bin .mod (.item (.loc 3) (.int 0)) (.int 3)) (.int 1)) (.seq (.asg 4 (.list (.cons (.slice (.loc 0) (.int 1) .none 2) (.cons (.slice (.loc 0) .none .none 2) .nil)))) .skip) .skip)
noncomputable def wvC:CS:=(.ite (.cmp .eq (.bin .mod (.item (.loc 3) (.int 0)) (.int 3)) (.int 2)) (.seq (.asg 4 (.list (.cons (.slice (.loc 0) (.bin .fdiv (.bf .len (.cons (.loc 0) .nil)) (.int 2)) .none 0) (.cons (.slice (.loc 0) .none (.bin .fdiv (.bf .len (.cons (.loc 0) .nil)) (.int 2)) 0) .nil)))) .skip) .skip)
structure Rws (h:HP) (K P Q:List Int) (q a b:Nat):Prop where
 at_:h[q]?=some (.list [.ref a,.ref b])
 p:h[a]?=some (.list (P.map .int))
 q:h[b]?=some (.list (Q.map .int))
 two:Two K P Q
theorem Jf (hr:h[r]?=some (.list (K.map .int))) (few:K.length≤99) (srt:K.Pairwise (·<·)) (hs:h[s]?=some (.list [.int s0,.int s1,.int s2])) :
  Oz.E6 fun P Q q' a b h'=>(∀ {rest:CS}{rr:RS},exec G cl W rest (wl8 r x1 q s (some (.ref q')) Option.none Option.none Option.none) h'=rr→exec G cl W (.seq wvA (.seq wvB (.seq wvC rest))) (wl8 r x1 q s Option.none Option.none Option.none Option.none) h=rr)∧Rws h' K P Q q' a b∧Ex [] h h' := by
 have two:=Ld srt
 refine Oz.z fun ζ η=>?_
 obtain⟨q1,a1,b1,h1,e1,g1,ga1,gb1,y1⟩:=Dr (cl:=cl) (l:=wl8 r x1 q s Option.none Option.none Option.none Option.none) (st:=2) (st' := 2) (ea:=.none) (eb:=.none) (ec:=.int 1) (ed:=.none) hr few rfl (fun ζ ζ=>cw) (fun ζ ζ=>cw) (fun ζ ζ=>ai) (fun ζ ζ=>cw) rfl rfl rfl rfl
 refine η ?_
 have hm:∀ (h' : HP) (t:Option AV),Ex [] h h'→ev G cl (.bin .mod (.item (.loc 3) (.int 0)) (.int 3)) (wl8 r x1 q s t Option.none Option.none Option.none) h'=.ok (.int (s0.fmod 3)) h' := fun h' t y=>aq (bc (aa rfl) ai (bh (k:=0) (y.get hs Oz.g0) rfl)) ai (fy (by decide))
 have tB:=fun(h' : HP) (t:Option AV) (y:Ex [] h h') (c:Int)=>az (hm h' t y) (ai (i:=c)) oj
 by_cases c1:s0.fmod 3=1
 ·refine Oz.z fun ζ1 η1=>?_
  obtain⟨q2,a2,b2,h2,e2,g2,ga2,gb2,y2⟩:=Dr (cl:=cl) (l:=wl8 r x1 q s (some (.ref q1)) Option.none Option.none Option.none) (st:=2) (st' := 2) (ea:=.int 1) (eb:=.none) (ec:=.none) (ed:=.none) (y1.get hr Oz.g0) few rfl (fun ζ ζ=>ai) (fun ζ ζ=>cw) (fun ζ ζ=>cw) (fun ζ ζ=>cw) rfl rfl rfl rfl
  refine η1 ?_
  have t1:=tB h1 (some (.ref q1)) y1 1
  rw [decide_eq_true c1] at t1
  have t2:=tB h2 (some (.ref q2)) (y1.trans y2) 2
  rw [decide_eq_false (by exact Oz.o535 c1)] at t2
  exact⟨_,_,q2,a2,b2,h2,fun e=>af (am e1) (af (be t1 (af (am e2) ah)) (af (ap t2 ah) e)),⟨g2,ga2,gb2,two.swap⟩,y1.trans y2⟩
 ·have t1:=tB h1 (some (.ref q1)) y1 1
  rw [decide_eq_false c1] at t1
  have t2:=tB h1 (some (.ref q1)) y1 2
  by_cases c2:s0.fmod 3=2
  ·rw [decide_eq_true c2] at t2
   have el:∀ h',Ex [] h1 h'→ev G cl (.bin .fdiv (.bf .len (.cons (.loc 0) .nil)) (.int 2)) (wl8 r x1 q s (some (.ref q1)) Option.none Option.none Option.none) h'=.ok (.int ((K.length / 2:Nat):Int)) h' := fun h' y=>by
    have:=aq (b7 (G:=G) (cl:=cl) (l:=wl8 r x1 q s (some (.ref q1)) Option.none Option.none Option.none) (e:=.loc 0) (aa rfl) (Cj ((y1.trans y).get hr Oz.g0))) (ai (i:=2)) (et (by decide))
    rw [this]
    exact congrArg (fun x=>R.ok (AV.int x) h') (by rw [Int.fdiv_eq_ediv_of_nonneg _ (by decide)]; exact Oz.o880)
   refine Oz.z fun ζ2 η2=>?_
   obtain⟨q2,a2,b2,h2,e2,g2,ga2,gb2,y2⟩:=Dr (cl:=cl) (l:=wl8 r x1 q s (some (.ref q1)) Option.none Option.none Option.none) (st:=0) (st' := 0) (ea:=.bin .fdiv (.bf .len (.cons (.loc 0) .nil)) (.int 2)) (eb:=.none) (ec:=.none) (ed:=.bin .fdiv (.bf .len (.cons (.loc 0) .nil)) (.int 2)) (y1.get hr Oz.g0) few rfl el (fun ζ ζ=>cw) (fun ζ ζ=>cw) el rfl rfl rfl rfl
   refine η2 ?_
   rw [B5] at ga2
   rw [wp] at gb2
   exact⟨_,_,q2,a2,b2,h2,fun e=>af (am e1) (af (ap t1 ah) (af (be t2 (af (am e2) ah)) e)),⟨g2,ga2,gb2,Lc srt _⟩,y1.trans y2⟩
  ·rw [decide_eq_false c2] at t2
   exact⟨_,_,q1,a1,b1,h1,fun e=>af (am e1) (af (ap t1 ah) (af (ap t2 ah) e)),⟨g1,ga1,gb1,two⟩,y1⟩
theorem J0 (z:Zz w H W) (kp:Kept w H K) (few:K.length≤40) (hr:h[r]?=some (.list (K.map .int))) (hq:h[q]?=some (.list [.int w,.int (H:Nat)])) (p:Spo h s w H s0 s1 s2) (st:Sta (TO w H K s0 s1 s2) x1 lo hi h) (hhi:hi≤h.length) :
  ∃ h',ae G W (n+7) 36 [.ref r,x1,.ref q,.ref s] h=.ok (.bool true) h'∧Ex [] h h' := by
 refine Oz.z fun ζ η=>?_
 obtain⟨P,Q,q',a,b,h1,run,rw,y1⟩:=Jf (cl:=ae G W (n+6)) (q:=q) (x1:=x1) hr (by exact Oz.o881 few) kp.srt p.at_
 have two:=rw.two
 have lp:=two.lp
 have lq:=two.lq
 have hq1:=y1.get hq Oz.g0
 obtain⟨i5,d5,k5,h2,e2,L2,y2,dl5,kl5⟩:=ig (n:=n+2) z rw.p ⟨two.p,fun y hy=>kp.rng y ((two.mem y).mpr (.inl hy))⟩ (by exact Oz.o882 few lp)
 have hq2:=y2.get hq1 Oz.g0
 obtain⟨i6,d6,k6,h3,e3,M3,y3,dl6,kl6⟩:=ig (n:=n+2) z (y2.get rw.q Oz.g0) ⟨two.q,fun y hy=>kp.rng y ((two.mem y).mpr (.inr hy))⟩ (by exact Oz.o882 few lq)
 have y03:=y1.trans (y2.trans y3)
 obtain⟨q7,h4,e4,y4,st4⟩:=j8 (n:=n) (l:=wl8 r x1 q s (some (.ref q')) (some (.ref i5)) (some (.ref i6)) Option.none) (a:=6) (b:=3) z M3 (p.ex0 y03) rfl rfl
 have L4:=(L2.ex0 y3).ex0 y4
 have M4:=M3.ex0 y4
 have p4:=p.ex0 (y03.trans y4)
 obtain⟨K5,h5,e5,L5,m5,y5⟩:=qp (n:=n+2) z L4 M4 two.apart (by exact Oz.o883 few lp lq)
 have hK:K5=K:=gu L5.kp.srt kp.srt fun x=>(m5 x).trans (two.mem x).symm
 subst hK
 have c1:=y1.len
 have c2:=au L2.flds
 have c2' := au L2.list
 have c3:=y3.len
 have cs:=au p.at_
 have M5:=M4.exL L4.toLad y5 (by exact Oz.o621 dl6 c2) (by exact Oz.o621 kl6 c2')
 have p5:=p4.exL L4.toLad y5 (by exact Oz.o884 kl5 c1 cs)
 have y04:=y03.trans y4
 have st5:=(st.ex0 y04 hhi).ex y5 (fun t ht=>by simp at ht; exact Oz.o885 hhi dl5 kl5 c1 ht) (Oz.g2 hhi y04.len)
 have st7:=st4.ex y5 (fun t ht=>by simp at ht; exact Oz.o886 c2 c2' c3 ht) (Oz.g3 _)
 obtain⟨h6,e6,_,y6⟩:=j9 (n:=n) (l:=wl8 r x1 q s (some (.ref q')) (some (.ref i5)) (some (.ref i6)) (some (.ref q7))) (a:=5) (b:=3) (e:=1) z L5 p5 rfl rfl rfl st5 (by have:=y04.len; have:=y5.len; exact Oz.o887 hhi ‹_› this)
 obtain⟨h7,e7,_,y7⟩:=j9 (n:=n) (l:=wl8 r x1 q s (some (.ref q')) (some (.ref i5)) (some (.ref i6)) (some (.ref q7))) (a:=6) (b:=3) (e:=7) z (M5.ex0 y6) (p5.ex0 y6) rfl rfl rfl (st7.ex0 y6 y5.len) (by have:=y5.len; have:=y6.len; exact Oz.o309 ‹_› this)
 refine η ?_
 exact⟨h7,bj g.woven rfl (run (af (am (ax (ag (bc (aa rfl) ai (bh (k:=0) hq1 rfl)) (ag (bc (aa rfl) ai (bh (k:=1) hq1 rfl)) (ag (bc (aa rfl) ai (bh (k:=0) rw.at_ rfl)) aj))) e2))
  (af (am (ax (ag (bc (aa rfl) ai (bh (k:=0) hq2 rfl)) (ag (bc (aa rfl) ai (bh (k:=1) hq2 rfl)) (ag (bc (aa rfl) ai (bh (k:=1) (y2.get rw.at_ Oz.g0) rfl)) aj))) e3))
  (af (am e4) (av (bi (b5 (jo (ax (es2 rfl rfl) e5)) (b5 e6 e7)))))))),(y04.fresh y5 (fun t ht=>.inr (by simp at ht; exact Oz.o888 dl5 kl5 c1 ht))).trans (y6.trans y7)⟩
end
end N14
end Sk
set_option autoImplicit false
namespace Sk
namespace N14
section
variable {n:Nat}{h h' : HP}{i d k r s q f lo hi i2 d2 k2 i3 d3 k3 a b:Nat}{w N c v x u:Int}{H:Nat}{K K2 M:List Int}{l:LOC}{cl:CallO}{s0 s1 s2:Int}{V:Vw}{x1 x2:AV}
noncomputable def sp2:CE:=(.item (.loc 2) (.int 2))
noncomputable def agA:CS:=(.ite (.and (.isin true sp2 (.loc 1)) (.cmp .ne (.meth (.loc 0) 6 (.cons sp2 .nil)) (.meth (.loc 3) 6 (.cons sp2 .nil)))) cg .skip)
set_option tactic.hygienic true in
theorem Nr (z:Zz w H W) (L:La h i d k w H K) (M:La h i3 d3 k3 w H K) (nd:d≠d3) (nk:k≠k3) (few:K.length≤60) (hr:h[r]?=some (.list (K.map .int))) (p:Spo h s w H s0 s1 s2) (sk:s≠k) :
  Oz.E2 fun K' h'=>exec G (ae G W (n+6)) W agA (hl7 i r s (some (.ref i3)) Option.none Option.none Option.none) h=.next (hl7 i r s (some (.ref i3)) Option.none Option.none Option.none) h'∧La h' i d k w H K'∧(∀ x,x∈K'↔x∈K∨x=s2)∧K'.length≤61∧Ex [d,k,d3,k3] h h' := by
 have ei:=ju (t:=true) (n:=s2) hr
 obtain⟨b0,b1⟩:=p.rg s2 (.tail _ (.head _))
 have es:∀ {h' : HP},Spo h' s w H s0 s1 s2→ev G (ae G W (n+6)) sp2 (hl7 i r s (some (.ref i3)) Option.none Option.none Option.none) h'=.ok (.int s2) h' := fun p=>bc (aa rfl) ai (bh (k:=2) p.at_ rfl)
 by_cases c:s2∈K
 ·rw [decide_eq_true c] at ei
  exact⟨K,h,ap (ij (ii (es p) (aa rfl) ei)) ah,L,fun x=>⟨.inl,fun q=>q.elim id fun u=>u ▸ c⟩,by exact Oz.o889 few,Ex.refl⟩
 ·rw [decide_eq_false c] at ei
  refine Oz.z fun ζ η=>?_
  obtain⟨K1,v1,h1,e1,L1,m1,l1,y1,t1⟩:=jy (n:=n+3) z L (by exact Oz.o890 few) b0 b1 c
  have M1:=M.exL L.toLad y1 nd.symm nk.symm
  obtain⟨K2,v2,h2,e2,M2,m2,l2,y2,t2⟩:=jy (n:=n+3) z M1 (by exact Oz.o890 few) b0 b1 c
  refine η ?_
  have lM:=au M.flds
  have lM' := au M.list
  have t1' := t1.ex y2 (fun t ht=>by simp at ht; exact Oz.o891 lM lM' ht) (Oz.g3 _)
  exact⟨K1,h2,ap (b5 (ii (es p) (aa rfl) ei) (az (L.em rfl g.m6 (ag (es p) aj) e1) (M1.em rfl g.m6 (ag (es (p.exL L.toLad y1 sk)) aj) e2) (Dz (Of.eq t1'.now t2.now (by decide))))) ah,L1.exL M1.toLad y2 nd nk,fun x=>(m1 x).trans or_comm,by exact Oz.o892 few l1,(y1.mono (by simp)).trans (y2.mono (by simp))⟩
theorem Cd (z:Zz w H W) (L:La h i d k w H K) (few:K.length≤60) (hr:h[r]?=some (.list (K.map .int))) (rk:r≠k) (p:Spo h s w H s0 s1 s2) (sk:s≠k) :
  ∃ h',ae G W (n+7) 35 [.ref i,.ref r,.ref s] h=.ok (.bool true) h'∧Ex [d,k] h h' := by
 refine Oz.z fun ζ η=>?_
 obtain⟨a0,a1⟩:=p.rg s1 (.head _)
 have ld:=au L.flds
 have lk:=au L.list
 have ls:=au p.at_
 have lr:=au hr
 obtain⟨i3,d3,k3,h1,e1,M1,y1,dl3,kl3⟩:=ig (n:=n+2) z hr L.kp L.few
 have L1:=L.ex0 y1
 obtain⟨K',h2,e2,L2,m2,l2,y2⟩:=Nr (n:=n) z L1 M1 (by exact Oz.o893 ld dl3) (by exact Oz.o893 lk kl3) few (y1.get hr Oz.g0) (p.ex0 y1) sk
 have y02:Ex [d,k] h h2:=y1.fresh y2 (fun t ht=>by simp at ht ⊢; exact Oz.o894 dl3 kl3 ht)
 have hr2:=bu hr L.toLad y02 rk
 have p2:=p.exL L.toLad y02 sk
 have e3:=kr (G:=G) (cl:=ae G W (n+6)) (l:=hl7 i r s (some (.ref i3)) Option.none Option.none Option.none) (s:=1) (m:=7) (p:=fun x=>!decide (x=s2)) (c:=.cmp .ne (.loc 7) sp2) rfl hr2 rfl (by exact Oz.o895 few) (fun x=>az (aa rfl) (bc (aa rfl) ai (bh (k:=2) p2.at_ rfl)) qx)
 obtain⟨F,hF⟩:∃ F,F=K.filter fun x=>!decide (x=s2):=⟨_,rfl⟩
 rw [← hF] at e3
 have fl:F.length≤60:=by rw [hF]; exact Oz.g2 (List.length_filter_le _ _) few
 have mF:∀ x,x∈F↔x∈K∧x≠s2:=fun x=>by rw [hF,Oz.g25]; simp
 have sF:F.Pairwise (·<·):=by rw [hF]; exact L.kp.srt.sublist List.filter_sublist
 obtain⟨h3,hh3⟩:∃ h3:HP,h3=h2++[.list (F.map .int)]:=⟨_,rfl⟩
 rw [← hh3] at e3
 have y3:Ex [] h2 h3:=hh3 ▸ Ex.app
 have q3:h3[h2.length]?=some (.list (F.map .int)):=by rw [hh3]; exact ak
 obtain⟨h4,hh4⟩:∃ h4:HP,h4=h3++[.list (([s2]:List Int).map .int)]:=⟨_,rfl⟩
 have y4:Ex [] h3 h4:=hh4 ▸ Ex.app
 have q4:h4[h3.length]?=some (.list (([s2]:List Int).map .int)):=by rw [hh4]; exact ak
 have e4:ev G (ae G W (n+6)) (.list (.cons sp2 .nil)) (hl7 i r s (some (.ref i3)) Option.none Option.none Option.none) h3=.ok (.ref h3.length) h4:=by
  rw [hh4]; exact b3 (ag (bc (aa rfl) ai (bh (k:=2) (p2.ex0 y3).at_ rfl)) aj) rfl
 have e5:=Bq (y4.get q3 Oz.g0) q4 (by simp; exact Oz.o896 fl)
 obtain⟨h5,hh5⟩:∃ h5:HP,h5=h4++[.list ((F++[s2]).map .int)]:=⟨_,rfl⟩
 refine η ?_
 rw [← hh5] at e5
 have y5:Ex [] h4 h5:=hh5 ▸ Ex.app
 have q5:h5[h4.length]?=some (.list ((F++[s2]).map .int)):=by rw [hh5]; exact ak
 have e6:=vh q5 (by rw [Oz.g26]; show F.length+1<64; exact Oz.o897 fl)
 rw [wo (M:=[s2]) sF (by simp) (fun x hx q=>((mF x).mp q).2 (Oz.g9.mp hx)) L2.kp.srt (fun x=>by
  rw [m2,mF,Oz.g9]
  by_cases c:x=s2
  ·simp [c]
  ·simp [c])] at e6
 refine Oz.z fun ζ1 η1=>?_
 obtain⟨h6,hh6⟩:∃ h6:HP,h6=h5++[.list (K'.map .int)]:=⟨_,rfl⟩
 rw [← hh6] at e6
 have y6:Ex [] h5 h6:=hh6 ▸ Ex.app
 have q6:h6[h5.length]?=some (.list (K'.map .int)):=by rw [hh6]; exact ak
 have y26:Ex [] h2 h6:=y3.trans (y4.trans (y5.trans y6))
 have L6:=L2.ex0 y26
 have p6:=p2.ex0 y26
 have lh2:=y02.len
 have lk6:=au L2.list
 have l26:=y26.len
 have c25:=(y3.trans (y4.trans y5)).len
 obtain⟨i7,d7,k7,h7,e7,L7,P7,y7,dl7,kl7⟩:=Iz (n:=n+2) (c:=s1) z L6 a0 (Int.le_of_lt a1)
 have q7:=bu q6 L6.toLad y7 (by exact Oz.o747 lk6 c25)
 have p7:=p6.exL L6.toLad y7 sk
 have sp1:∀ {h' : HP}(t1 t3 t4 t5 t6:Option AV),Spo h' s w H s0 s1 s2→ev G (ae G W (n+6)) (.item (.loc 2) (.int 1)) [some (.ref i),t1,some (.ref s),t3,t4,t5,t6] h'=.ok (.int s1) h' := fun ζ ζ ζ ζ ζ p=>bc (aa rfl) ai (bh (k:=1) p.at_ rfl)
 have lK:K'.length≤99999:=by exact Oz.o898 l2
 have e8:=kr (G:=G) (cl:=ae G W (n+6)) (l:=hl7 i h5.length s (some (.ref i3)) (some (.ref i7)) Option.none Option.none) (s:=1) (m:=7) (p:=fun x=>decide (x<s1)) (c:=.cmp .lt (.loc 7) (.item (.loc 2) (.int 1))) rfl q7 rfl lK (fun x=>az (aa rfl) (bc (aa rfl) ai (bh (k:=1) p7.at_ rfl)) mr)
 obtain⟨h8,hh8⟩:∃ h8:HP,h8=h7++[.list ((K'.filter fun x=>decide (x<s1)).map .int)]:=⟨_,rfl⟩
 rw [← hh8] at e8
 have y8:Ex [] h7 h8:=hh8 ▸ Ex.app
 have q8:h8[h7.length]?=some (.list ((K'.filter fun x=>decide (x<s1)).map .int)):=by rw [hh8]; exact ak
 obtain⟨i9,d9,k9,h9,e9,M9,y9,_,_⟩:=ig (n:=n+2) z q8 L7.kp L7.few
 have y79:=y8.trans y9
 have q9:=y79.get q7 Oz.g0
 have p9:=p7.ex0 y79
 have L9:=L7.ex0 y79
 have e10:=kr (G:=G) (cl:=ae G W (n+6)) (l:=hl7 i h5.length s (some (.ref i3)) (some (.ref i7)) (some (.ref i9)) Option.none) (s:=1) (m:=7) (p:=fun x=>decide (s1≤x)) (c:=.cmp .ge (.loc 7) (.item (.loc 2) (.int 1))) rfl q9 rfl lK (fun x=>az (aa rfl) (bc (aa rfl) ai (bh (k:=1) p9.at_ rfl)) Ik)
 obtain⟨h10,hh10⟩:∃ h10:HP,h10=h9++[.list ((K'.filter fun x=>decide (s1≤x)).map .int)]:=⟨_,rfl⟩
 rw [← hh10] at e10
 have y10:Ex [] h9 h10:=hh10 ▸ Ex.app
 have q10:h10[h9.length]?=some (.list ((K'.filter fun x=>decide (s1≤x)).map .int)):=by rw [hh10]; exact ak
 obtain⟨i11,d11,k11,h11,e11,M11,y11,_,_⟩:=ig (n:=n+2) z q10 P7.kp P7.few
 have y711:=y79.trans (y10.trans y11)
 have L11:=L7.ex0 y711
 have P11:=P7.ex0 y711
 have M9' := M9.ex0 (y10.trans y11)
 have p11:=p7.ex0 y711
 obtain⟨h12,e12,y12⟩:=vq (n:=n+1) (u:=s1) z L11 (fun q=>by have:=of_decide_eq_true (Oz.g25.mp q).2; exact Oz.o899 this)
 have P12:=P11.ex0 y12
 have p12:=p11.ex0 y12
 obtain⟨h13,e13,y13⟩:=vq (n:=n+1) (u:=s1 - 1) z P12 (fun q=>by have:=of_decide_eq_true (Oz.g25.mp q).2; exact Oz.o900 this)
 have y1113:=y12.trans y13
 have L13:=L11.ex0 y1113
 have P13:=P11.ex0 y1113
 have p13:=p11.ex0 y1113
 obtain⟨h14,e14,_,y14⟩:=wg (n:=n) (l:=hl7 i h5.length s (some (.ref i3)) (some (.ref i7)) (some (.ref i9)) (some (.ref i11))) (a:=0) (b:=2) (e:=5) z L13 (M9'.ex0 y1113) p13 rfl rfl rfl
 obtain⟨h15,e15,_,y15⟩:=wg (n:=n) (l:=hl7 i h5.length s (some (.ref i3)) (some (.ref i7)) (some (.ref i9)) (some (.ref i11))) (a:=4) (b:=2) (e:=6) z (P13.ex0 y14) ((M11.ex0 y1113).ex0 y14) (p13.ex0 y14) rfl rfl rfl
 refine η1 ?_
 refine⟨h15,bj g.again rfl (af (am (ax (ag (L.ea rfl rfl) (ag (L.ea rfl rfl) (es1 rfl))) e1)) (af e2 (af (am (b7 (aq e3 e4 e5) e6)) (af (am (ax (ag (aa rfl) (ag (sp1 _ _ _ _ _ p6) aj)) e7))
  (af (am (ax (ag (L7.ea rfl rfl) (ag (L7.ea rfl rfl) (ag e8 aj))) e9)) (af (am (ax (ag (L9.ea rfl rfl) (ag (L9.ea rfl rfl) (ag e10 aj))) e11))
  (af (ap (eu (dw (ax (ag (aa rfl) (ag (sp1 _ _ _ _ _ p11) aj)) e12)) (dw (ax (ag (aa rfl) (ag (aq (sp1 _ _ _ _ _ p12) ai fj) aj)) e13))) ah) (av (bi (b5 e14 e15)))))))))),?_⟩
 exact y02.trans ((y26.up.trans y7).trans ((y711.trans (y1113.trans (y14.trans y15))).up))
end
end N14
end Sk
set_option autoImplicit false
namespace Sk
namespace N14
section
variable {n:Nat}{h h' : HP}{i d k r s q f lo hi i2 d2 k2 i3 d3 k3 a b:Nat}{w N c v x u:Int}{H:Nat}{K K2 M:List Int}{l:LOC}{cl:CallO}{s0 s1 s2:Int}{V:Vw}{x1 x2:AV}
noncomputable abbrev gl7 (i j r q s:Nat) (t5 t6:Option AV):LOC:=[some (.ref i),some (.ref j),some (.ref r),some (.ref q),some (.ref s),t5,t6]
noncomputable def goA:CS:=(.ite (.cmp .ne (.call 30 (.cons (.loc 0) (.cons (.loc 0) .nil))) (.item (.list (.cons (.int 0) (.cons (.int 2) .nil))) (.bf .int (.cons (.cmp .ne (.loc 2) (.list .nil)) .nil)))) cg .skip)
theorem isE (hK:K≠[]):K.isEmpty=false:=by cases K with | nil=>exact absurd rfl hK | cons=>rfl
set_option tactic.hygienic true in
theorem Kq {t5 t6:Option AV}(z:Zz w H W) (L:La h i d k w H K) (few:K.length≤40) (hr:h[r]?=some (.list (K.map .int))) (rk:r≠k) :
  ∃ h',exec G (ae G W (n+7)) W goA (gl7 i i2 r q s t5 t6) h=.next (gl7 i i2 r q s t5 t6) h'∧La h' i d k w H K∧Ex [d,k] h h' := by
 have key:∀ (h1:HP) (m:Nat),ae G W (n+7) 30 [.ref i,.ref i] h=.ok (.int (if K.isEmpty then 0 else 2)) h1→La h1 i d k w H K→Ex [d,k] h h1→∃ h',exec G (ae G W (n+7)) W goA (gl7 i i2 r q s t5 t6) h=.next (gl7 i i2 r q s t5 t6) h'∧La h' i d k w H K∧Ex [d,k] h h' := fun h1 ζ e1 L1 y1=>by
  obtain⟨h2,hh2⟩:∃ h2:HP,h2=h1++[.list [.int 0,.int 2]]:=⟨_,rfl⟩
  have y2:Ex [] h1 h2:=hh2 ▸ Ex.app
  have q2:h2[h1.length]?=some (.list [.int 0,.int 2]):=by rw [hh2]; exact ak
  have hr2:=y2.get (bu hr L.toLad y1 rk) Oz.g0
  obtain⟨_,e3⟩:=qv (cl:=ae G W (n+7)) (l:=gl7 i i2 r q s t5 t6) (a:=2) hr2 rfl
  have y3:Ex [] h2 (h2++[.list []]):=Ex.app
  have q3:=y3.get q2 Oz.g0
  have el:ev G (ae G W (n+7)) (.list (.cons (.int 0) (.cons (.int 2) .nil))) (gl7 i i2 r q s t5 t6) h1=.ok (.ref h1.length) h2:=by rw [hh2]; exact b3 (ag ai (ag ai aj)) rfl
  have ei:dh (.ref h1.length) (.int (if !K.isEmpty then 1 else 0)) (h2++[.list []])=.ok (.int (if K.isEmpty then 0 else 2)) (h2++[.list []]):=by
   cases K.isEmpty with
   | true=>exact bh (k:=0) q3 rfl
   | false=>exact bh (k:=1) q3 rfl
  exact⟨_,ap (az (ax (es2 rfl rfl) e1) (bc el (b7 e3 rfl) ei) (by rw [qx,decide_eq_true rfl]; rfl)) ah,(L1.ex0 y2).ex0 y3,y1.trans (y2.trans y3).up⟩
 by_cases hK:K=[]
 ·subst hK
  refine Oz.z fun ζ η=>?_
  obtain⟨K',h1,e1,L1,m1,y1⟩:=qp (n:=n+2) z L L (fun x hx=>absurd hx Oz.g0) (by decide)
  refine η ?_
  have hK' : K'=[]:=gu L1.kp.srt .nil fun x=>by rw [m1]; simp
  subst hK'
  exact key h1 0 (wt e1) L1 y1
 ·refine Oz.z fun ζ1 η1=>?_
  obtain⟨x,hx⟩:=List.exists_mem_of_ne_nil _ hK
  obtain⟨h1,e1,y1⟩:=oo (n:=n+2) L L ⟨x,hx,hx⟩
  obtain⟨h2,e2,y2⟩:=tz e1 y1
  refine η1 ?_
  exact key h2 0 (by rw [isE hK]; exact e2) (L.ex0 y2) y2.up
noncomputable def goB:CS:=(.ite (.cmp .ne (.loc 2) (.list .nil)) (.seq (.ex (.meth (.loc 0) 7 (.cons (.item (.loc 2) (.neg (.int 1))) .nil))) (.seq (.ex (.meth (.loc 0) 6 (.cons (.item (.loc 2) (.neg (.int 1))) .nil))) (.seq (.ex (.meth (.loc 0) 7 (.cons (.item (.loc 2) (.int 0)) .nil))) .skip))) .skip)
theorem I9 {K' : List Int}(s:K.Pairwise (·<·)) (s' : K'.Pairwise (·<·)) (h0:K[0]?=some N) (m:∀ x,x∈K'↔x∈K∧x≠N):K'=K.drop 1:=by
 cases K with
 | nil=>cases h0
 | cons a R =>
  cases h0
  obtain⟨s1,s2⟩:=List.pairwise_cons.mp s
  refine gu s' s2 fun x=>?_
  rw [m,Oz.g6]
  exact⟨fun q=>q.1.resolve_left q.2,fun q=>⟨.inr q,fun e=>Int.lt_irrefl x (by have:=s1 x q; rw [← e] at this; exact this)⟩⟩
set_option tactic.hygienic true in
theorem Ng {t5 t6:Option AV}(z:Zz w H W) (L:La h i d k w H K) (few:K.length≤40) (hr:h[r]?=some (.list (K.map .int))) (rk:r≠k) :
  ∃ h',exec G (ae G W (n+7)) W goB (gl7 i i2 r q s t5 t6) h=.next (gl7 i i2 r q s t5 t6) h'∧La h' i d k w H (K.drop 1)∧Ex [d,k] h h' := by
 obtain⟨_,e0⟩:=qv (cl:=ae G W (n+7)) (l:=gl7 i i2 r q s t5 t6) (a:=2) hr rfl
 have y0:Ex [] h (h++[.list []]):=Ex.app
 by_cases hK:K=[]
 ·subst hK
  exact⟨_,ap e0 ah,L.ex0 y0,y0.up⟩
 ·rw [isE hK] at e0
  refine Oz.z fun ζ η=>?_
  obtain⟨h0,hh0⟩:∃ h0:HP,h0=h++[.list []]:=⟨_,rfl⟩
  rw [← hh0] at e0 y0
  have L0:=L.ex0 y0
  have hr0:=y0.get hr Oz.g0
  obtain⟨A,B,hAB⟩:Oz.E2 fun A B=>K=A++[B]:=⟨_,_,(List.dropLast_concat_getLast hK).symm⟩
  have hB:B∈K:=by rw [hAB]; simp
  obtain⟨n0,n1⟩:=L.kp.rng B hB
  have il:∀ {h' : HP},h'[r]?=some (.list (K.map .int))→ev G (ae G W (n+7)) (.item (.loc 2) (.neg (.int 1))) (gl7 i i2 r q s t5 t6) h'=.ok (.int B) h' := fun e=>bc (aa rfl) (Du ai) (yo (vs:=A.map .int) (by rw [e,hAB,List.map_append]; rfl))
  have lp:0<K.length:=List.length_pos_iff.mpr hK
  have hF:=kq (K:=K) (m:=0) lp
  obtain⟨K1,v1,h1,e1,L1,m1,y1,_⟩:=js (n:=n+4) z L0 hB
  have hr1:=bu hr0 L0.toLad y1 rk
  have l1:K1.length≤98:=by have:=List.Nodup.length_le_of_subset (iz L1.kp.srt) (fun x hx=>((m1 x).mp hx).1); exact Oz.o901 few this
  obtain⟨K2,v2,h2,e2,L2,m2,_,y2,_⟩:=jy (n:=n+4) z L1 l1 n0 n1 (fun q=>((m1 B).mp q).2 rfl)
  have hK2:K2=K:=gu L2.kp.srt L.kp.srt fun x=>by
   rw [m2,m1]
   exact⟨fun u=>u.elim (fun e=>e ▸ hB) fun u=>u.1,fun u=>(Classical.em (x=B)).imp id fun e=>⟨u,e⟩⟩
  subst hK2
  have hr2:=bu hr1 L1.toLad y2 rk
  obtain⟨K3,v3,h3,e3,L3,m3,y3,_⟩:=js (n:=n+4) z L2 (Oz.g16 hF)
  have:=I9 L2.kp.srt L3.kp.srt hF m3
  subst this
  refine η ?_
  exact⟨h3,be e0 (af (ca (L0.em rfl g.m7 (ag (il hr0) aj) e1)) (af (ca (L1.em rfl g.m6 (ag (il hr1) aj) e2)) (af (ca (L2.em rfl g.m7 (ag (bc (aa rfl) ai (bh (k:=0) hr2 (by rw [Oz.g12,hF]; rfl))) aj) e3)) ah))),L3,y0.up.trans (y1.trans (y2.trans y3))⟩
noncomputable def goC:CS:=(.ite (.cmp .ne (.loc 3) (.list .nil)) (.seq (.asg 6 (.call 29 (.cons (.attr (.loc 0) 0) (.cons (.attr (.loc 0) 1) (.cons (.loc 3) .nil))))) (.seq (.ite (.cmp .ne (.meth (.loc 1) 7 (.cons (.item (.loc 3) (.int 0)) .nil)) (.meth (.loc 6) 7 (.cons (.item (.loc 3) (.int 0)) .nil))) cg .skip) .skip)) .skip)
set_option tactic.hygienic true in
theorem Kr {t5 t6:Option AV}(z:Zz w H W) (L:La h i d k w H K) (P:La h i2 d2 k2 w H K2) (hq:h[q]?=some (.list (K2.map .int))) (qk:q≠k2) :
  Oz.E2 fun t h'=>exec G (ae G W (n+7)) W goC (gl7 i i2 r q s t5 t6) h=.next (gl7 i i2 r q s t5 t) h'∧La h' i2 d2 k2 w H (K2.drop 1)∧Ex [d2,k2] h h' := by
 obtain⟨_,e0⟩:=qv (cl:=ae G W (n+7)) (l:=gl7 i i2 r q s t5 t6) (a:=3) hq rfl
 have y0:Ex [] h (h++[.list []]):=Ex.app
 by_cases hK:K2=[]
 ·subst hK
  exact⟨_,_,ap e0 ah,P.ex0 y0,y0.up⟩
 ·rw [isE hK] at e0
  refine Oz.z fun ζ η=>?_
  obtain⟨h0,hh0⟩:∃ h0:HP,h0=h++[.list []]:=⟨_,rfl⟩
  rw [← hh0] at e0 y0
  have L0:=L.ex0 y0
  have hq0:=y0.get hq Oz.g0
  have lp:0<K2.length:=List.length_pos_iff.mpr hK
  have hF:=kq (K:=K2) (m:=0) lp
  have hm:=Oz.g16 hF
  obtain⟨i3,d3,k3,h1,e1,M1,y1,dl,kl⟩:=ig (n:=n+3) z hq0 P.kp P.few
  have P1:=(P.ex0 y0).ex0 y1
  have hq1:=y1.get hq0 Oz.g0
  have ld:=au P.flds
  have lk:=au P.list
  have l0:=y0.len
  have it:∀ {h' : HP}(t:Option AV),h'[q]?=some (.list (K2.map .int))→ev G (ae G W (n+7)) (.item (.loc 3) (.int 0)) (gl7 i i2 r q s t5 t) h'=.ok (.int (K2.getD 0 0)) h' := fun t e=>bc (aa rfl) ai (bh (k:=0) e (by rw [Oz.g12,hF]; rfl))
  obtain⟨K3,v3,h3,e3,P3,m3,y3,t3⟩:=js (n:=n+4) z P1 hm
  have M3:=M1.exL P1.toLad y3 (by exact Oz.o902 dl ld l0) (by exact Oz.o902 kl lk l0)
  have hq3:=bu hq1 P1.toLad y3 qk
  obtain⟨K4,v4,h4,e4,M4,m4,y4,t4⟩:=js (n:=n+4) z M3 hm
  have lM:=au M1.flds
  have lM' := au M1.list
  have t3' := t3.ex y4 (fun t ht=>by simp at ht; exact Oz.o891 lM lM' ht) (Oz.g3 _)
  have:=I9 P.kp.srt P3.kp.srt hF m3
  subst this
  refine η ?_
  exact⟨_,h4,be e0 (af (am (ax (ag (L0.ea rfl rfl) (ag (L0.ea rfl rfl) (es1 rfl))) e1)) (af (ap (az (P1.em rfl g.m7 (ag (it _ hq1) aj) e3) (M3.em rfl g.m7 (ag (it _ hq3) aj) e4) (Dz ((Oe P.kp.srt).eq t3'.now t4.now (by decide)))) ah) ah)),P3.exL M3.toLad y4 (by exact Oz.o759 dl ld l0) (by exact Oz.o759 kl lk l0),(y0.trans y1).fresh (S:=[d2,k2]) ((y3.mono (T:=[d2,k2,d3,k3]) (by simp)).trans (y4.mono (by simp))) (fun t ht=>by simp at ht ⊢; exact Oz.o903 dl kl l0 ht)⟩
theorem Hi (z:Zz w H W) (L:La h i d k w H K) (P:La h i2 d2 k2 w H K2) (nd:d≠d2) (nk:k≠k2) (few:K.length≤40) (few2:K2.length≤40) (hr:h[r]?=some (.list (K.map .int))) (hq:h[q]?=some (.list (K2.map .int))) (rk:r≠k) (rk2:r≠k2) (qk:q≠k) (qk2:q≠k2) (p:Spo h s w H s0 s1 s2) (sk:s≠k) (sk2:s≠k2) :
  ∃ h',ae G W (n+8) 33 [.ref i,.ref i2,.ref r,.ref q,.ref s] h=.ok (.bool true) h'∧Ex [d,k,d2,k2] h h' := by
 refine Oz.z fun ζ η=>?_
 obtain⟨h1,e1,L1,y1⟩:=Kq (n:=n) (i2:=i2) (q:=q) (s:=s) (t5:=Option.none) (t6:=Option.none) z L few hr rk
 obtain⟨h2,e2,L2,y2⟩:=Ng (n:=n) (i2:=i2) (q:=q) (s:=s) (t5:=Option.none) (t6:=Option.none) z L1 few (bu hr L.toLad y1 rk) rk
 have y12:=y1.trans y2
 have P2:=P.exL L.toLad y12 nd.symm nk.symm
 have hq2:=bu hq L.toLad y12 qk
 have hr2:=bu hr L.toLad y12 rk
 have p2:=p.exL L.toLad y12 sk
 obtain⟨t6,h3,e3,P3,y3⟩:=Kr (n:=n) (r:=r) (s:=s) (t5:=Option.none) (t6:=Option.none) z L2 P2 hq2 qk2
 have L3:=L2.exL P2.toLad y3 nd nk
 have hr3:=bu hr2 P2.toLad y3 rk2
 have hq3:=bu hq2 P2.toLad y3 qk2
 have p3:=p2.exL P2.toLad y3 sk2
 have f9:K.length≤9999:=by exact Oz.o904 few
 have f92:K2.length≤9999:=by exact Oz.o904 few2
 have sf:∀ {L:List Int},sl L (some 1) Option.none 0=L.drop 1:=B5 1
 have so:=iw (st:=0) (lo:=.int 1) (hi:=.none) rfl rfl (.inl hr3) f9
 rw [sf] at so
 obtain⟨h4,hh4⟩:∃ h4:HP,h4=h3++[.list ((K.drop 1).map .int)]:=⟨_,rfl⟩
 rw [← hh4] at so
 have y4:Ex [] h3 h4:=hh4 ▸ Ex.app
 have q4:h4[h3.length]?=some (.list ((K.drop 1).map .int)):=by rw [hh4]; exact ak
 obtain⟨i5,d5,k5,h5,e5,M5,y5,_,_⟩:=ig (n:=n+3) z q4 L3.kp L3.few
 have y35:=y4.trans y5
 have L5:=L3.ex0 y35
 have p5:=p3.ex0 y35
 obtain⟨h6,_,e6,y6⟩:=wg (n:=n+1) (l:=gl7 i i2 r q s (some (.ref i5)) t6) (a:=0) (b:=4) (e:=5) z L5 M5 p5 rfl rfl rfl
 have y36:=y35.trans y6
 have P6:=P3.ex0 y36
 have p6:=p3.ex0 y36
 have so7:=iw (st:=0) (lo:=.int 1) (hi:=.none) rfl rfl (.inl (y36.get hq3 Oz.g0)) f92
 rw [sf] at so7
 obtain⟨h7,hh7⟩:∃ h7:HP,h7=h6++[.list ((K2.drop 1).map .int)]:=⟨_,rfl⟩
 rw [← hh7] at so7
 have y7:Ex [] h6 h7:=hh7 ▸ Ex.app
 have q7:h7[h6.length]?=some (.list ((K2.drop 1).map .int)):=by rw [hh7]; exact ak
 have y37:=y36.trans y7
 have P7:=P3.ex0 y37
 have L7:=L3.ex0 y37
 have lk2:=au P6.list
 obtain⟨h8,e8,y8⟩:=Cd (n:=n) z P7 (by rw [List.length_drop]; exact Oz.o905 few2) q7 (by exact Oz.o173 lk2) (p3.ex0 y37) sk2
 have L8:=L7.exL P7.toLad y8 nd nk
 have hr8:=bu (y37.get hr3 Oz.g0) P7.toLad y8 rk2
 have p8:=(p3.ex0 y37).exL P7.toLad y8 sk2
 have so9:=iw (st:=0) (lo:=.int 1) (hi:=.none) rfl rfl (.inl hr8) f9
 rw [sf] at so9
 obtain⟨h9,hh9⟩:∃ h9:HP,h9=h8++[.list ((K.drop 1).map .int)]:=⟨_,rfl⟩
 rw [← hh9] at so9
 have y9:Ex [] h8 h9:=hh9 ▸ Ex.app
 have q9:h9[h8.length]?=some (.list ((K.drop 1).map .int)):=by rw [hh9]; exact ak
 have L9:=L8.ex0 y9
 have lk:=au L8.list
 obtain⟨h10,e10,y10⟩:=Cd (n:=n) z L9 (by rw [List.length_drop]; exact Oz.o905 few) q9 (by exact Oz.o173 lk) (p8.ex0 y9) sk
 refine η ?_
 refine⟨h10,bj g.goesOn rfl (af e1 (af e2 (af e3 (af (am (ax (ag (L3.ea rfl rfl) (ag (L3.ea rfl rfl) (ag (iq (aa rfl) ai cw so) aj))) e5)) (af (ap e6 ah)
  (av (bi (b5 (ax (ag (aa rfl) (ag (iq (aa rfl) ai cw so7) (es1 rfl))) e8) (ax (ag (aa rfl) (ag (iq (aa rfl) ai cw so9) (es1 rfl))) e10))))))))),?_⟩
 exact(y12.mono (by simp)).trans ((y3.mono (by simp)).trans (y37.up.trans ((y8.mono (by simp)).trans (y9.up.trans (y10.mono (by simp))))))
end
end N14
end Sk
set_option autoImplicit false
namespace Sk
namespace N14
section
variable {n:Nat}{h h' : HP}{i d k r s q f lo hi i2 d2 k2 i3 d3 k3 a b:Nat}{w N c v x u:Int}{H:Nat}{K K2 M:List Int}{l:LOC}{cl:CallO}{s0 s1 s2:Int}{V:Vw}{x1 x2:AV}{t4 t5 t6 t7:Option AV}
noncomputable abbrev tl8 (i r:Nat) (v:AV) (s:Nat) (t4 t5 t6 t7:Option AV):LOC:=[some (.ref i),some (.ref r),some v,some (.ref s),t4,t5,t6,t7]
noncomputable def hvs (w:Int) (H:Nat) (K:List Int) (N:Int):List Vw:=[IL K,IL (ay (w^H) Option.none K),PT w H K N,IL (btw K 0 (w^H))]
theorem Nk:Dt 4 (LV (hvs w H K N)):=qw (k:=3) fun V hV=>by
 unfold hvs at hV
 simp only [Oz.g6,Oz.g0,or_false] at hV
 rcases hV with rfl | rfl | rfl | rfl
 ·exact ke ug (by decide)
 ·exact ke ug (by decide)
 ·exact Dv
 ·exact ke ug (by decide)
noncomputable def Cp (lo:Nat) (h:HP) (p:Nat×Vw):Prop:=lo≤p.1∧∃ vs,h[p.1]?=some (.list vs)∧∀ q' h'',Ex [] h h''→h''[q']?=some (.list vs)→lo≤q'→Sta p.2 (.ref q') lo h''.length h''
theorem Cp.ex0 {p:Nat×Vw}(c:Cp lo h p) (x:Ex [] h h'):Cp lo h' p:=by
 obtain⟨a,vs,e,f⟩:=c
 exact⟨a,vs,x.get e Oz.g0,fun q' h'' y=>f q' h'' (x.trans y)⟩
theorem Cp.sta {p:Nat×Vw}(c:Cp lo h p):Sta p.2 (.ref p.1) lo h.length h:=by
 obtain⟨a,vs,e,f⟩:=c
 exact f _ h Ex.refl e a
theorem Dw {L:List Int}(e:h[q]?=some (.list (L.map .int))) (a:lo≤q):Cp lo h (q,IL L):=⟨a,_,e,fun q' h'' ζ e' a'=>vo e' a' (au e')⟩
noncomputable def tuH:CE:=(.list (.cons (.meth (.loc 0) 8 .nil) (.cons (.meth (.loc 0) 9 (.cons (.attr (.loc 0) 1) .nil)) (.cons (.meth (.loc 0) 11 (.cons (.loc 4) .nil)) (.cons (.meth (.loc 0) 17 (.cons (.int 0) (.cons (.attr (.loc 0) 2) .nil))) .nil)))))
noncomputable def tuK:CE:=(.comp (.bf .list (.cons (.loc 8) .nil)) .val (.cons (.loc 5) .nil) (.bool true))
theorem Ji (z:Zz w H W) (L:La h i d k w H K) (n0:0≤N) (n1:N<w^H) :
  Oz.E4 fun q5 q6 h1 h2=>ev G (ae G W (n+6)) tuH (tl8 i r x1 s (some (.int N)) t5 t6 t7) h=.ok (.ref q5) h1∧ev G (ae G W (n+6)) tuK (tl8 i r x1 s (some (.int N)) (some (.ref q5)) t6 t7) h1=.ok (.ref q6) h2∧Ex [] h h2∧Sta (LV (hvs w H K N)) (.ref q5) h.length h2.length h2∧Sta (LV (hvs w H K N)) (.ref q6) h.length h2.length h2:=by
 have k9:K.length≤99999:=by have:=L.few; exact Oz.o798 this
 refine Oz.z fun ζ η=>?_
 obtain⟨h1,hh1⟩:∃ h1:HP,h1=h++[.list (K.map .int)]:=⟨_,rfl⟩
 have e1:=ni (n:=n+5) L.toLad
 rw [← hh1] at e1
 have y1:Ex [] h h1:=hh1 ▸ Ex.app
 have q1:h1[h.length]?=some (.list (K.map .int)):=by rw [hh1]; exact ak
 have L1:=L.ex0 y1
 obtain⟨gb,e2⟩:=pj (W:=W) (n:=n+3) (lv:=H) g.power g.thinned g.level L1.toLad (L1.ok z) (Oz.g3 _)
 obtain⟨h2,hh2⟩:∃ h2:HP,h2=h1++.list ((ay (w^H) Option.none K).map .int)::gb:=⟨_,rfl⟩
 rw [← hh2] at e2
 have y2:Ex [] h1 h2:=hh2 ▸ Ex.app
 have q2:h2[h1.length]?=some (.list ((ay (w^H) Option.none K).map .int)):=by rw [hh2]; exact ak
 have L2:=L1.ex0 y2
 obtain⟨q3,vs,h3,e3,g3,hq3,y3,st3⟩:=Ac (n:=n+1) (lo:=h.length) z L2 n0 n1 (Oz.g2 y1.len y2.len)
 have L3:=L2.ex0 y3
 have e4:ae G W (n+6) 20 [.ref i,.int 0,.int (w^H)] h3=.ok (.ref h3.length) (h3++[.list ((btw K 0 (w^H)).map .int)]):=rq (n:=n+4) g.toLG g.str L3.toLad k9 ⟨Int.le_refl _,by exact Oz.o641 n0 n1⟩ ⟨by exact Oz.o641 n0 n1,Int.le_refl _⟩
 obtain⟨h4,hh4⟩:∃ h4:HP,h4=h3++[.list ((btw K 0 (w^H)).map .int)]:=⟨_,rfl⟩
 rw [← hh4] at e4
 have y4:Ex [] h3 h4:=hh4 ▸ Ex.app
 have q4:h4[h3.length]?=some (.list ((btw K 0 (w^H)).map .int)):=by rw [hh4]; exact ak
 obtain⟨ps,hps⟩:∃ ps:List (Nat×Vw),ps=[(h.length,IL K),(h1.length,IL (ay (w^H) Option.none K)),(q3,PT w H K N),(h3.length,IL (btw K 0 (w^H)))]:=⟨_,rfl⟩
 obtain⟨h5,hh5⟩:∃ h5:HP,h5=h4++[.list (ps.map fun p=>.ref p.1)]:=⟨_,rfl⟩
 have y5:Ex [] h4 h5:=hh5 ▸ Ex.app
 have q5:h5[h4.length]?=some (.list (ps.map fun p=>.ref p.1)):=by rw [hh5]; exact ak
 have l1:=y1.len
 have l2:=y2.len
 have l3:=y3.len
 have l4:=y4.len
 have l5:=au q5
 have y35:=y4.trans y5
 have y25:=y3.trans y35
 have cps:∀ p∈ps,Cp h.length h5 p:=fun p hp=>by
  rw [hps] at hp
  simp only [Oz.g6,Oz.g0,or_false] at hp
  rcases hp with rfl | rfl | rfl | rfl
  ·exact Dw ((y2.trans y25).get q1 Oz.g0) (Oz.g3 _)
  ·exact Dw (y25.get q2 Oz.g0) l1
  ·exact⟨by show h.length≤q3; exact Oz.o906 hq3 l1 l2,vs,y35.get g3 Oz.g0,fun q' h'' y e' a'=>st3 q' h'' e' a' (y35.trans y)⟩
  ·exact Dw (y5.get q4 Oz.g0) (by exact Oz.o887 l1 l2 l3)
 have ee:ev G (ae G W (n+6)) tuH (tl8 i r x1 s (some (.int N)) t5 t6 t7) h=.ok (.ref h4.length) h5:=by
  rw [hh5,hps]
  exact b3 (ag (L.em rfl g.m8 aj e1) (ag (L1.em rfl g.m9 (ag (L1.ea rfl rfl) aj) e2) (ag (L2.em rfl g.m11 (es1 rfl) e3) (ag (L3.em rfl g.m17 (ag ai (ag (L3.ea rfl rfl) aj)) e4) aj)))) rfl
 have hV:ps.map (·.2)=hvs w H K N:=by rw [hps]; rfl
 have p4:ps.length=4:=by rw [hps]; rfl
 obtain⟨q6,xs,h6,e6,y6,_,_,_,st6⟩:=jv (α:=Nat×Vw) (lo:=h.length) (g:=some (h4.length,.list (ps.map fun p=>.ref p.1))) (G:=G) (cl:=ae G W (n+6)) (l:=tl8 i r x1 s (some (.int N)) (some (.ref h4.length)) t6 t7) (elt:=.bf .list (.cons (.loc 8) .nil)) (cond:=.bool true) (ik:=.val) (e:=fun p=>.ref p.1) (p:=fun ζ=>true) (V:=(·.2)) (L:=ps)
  (ag (a:=.loc 5) (aa rfl) aj) Ex.refl (bw q5) (by exact Oz.o907 p4) (by exact Oz.o908 l1 l2 l3 l4 l5) (fun h' x=>b4 (x.get q5 Oz.g0))
  (fun p hp h' x=>⟨h',jc,Ex.refl,fun ζ=>by
   obtain⟨a,us,e,f⟩:=(cps p hp).ex0 x
   have y7:Ex [] h' (h'++[.list us]):=Ex.app
   exact⟨_,_,b7 (aa rfl) (jq e),y7,f _ _ y7 ak (by have:=x.len; exact Oz.o909 l1 l2 l3 l4 l5 this)⟩⟩)
 refine η ?_
 rw [List.filter_eq_self.mpr (fun ζ ζ=>rfl),hV] at st6
 refine⟨h4.length,q6,h5,h6,ee,e6,y1.trans (y2.trans (y25.trans y6)),?_,st6⟩
 have r5:Row (ps.map fun p=>.ref p.1) (ps.map (·.2)) h.length h6.length h6:=⟨by rw [Oz.g13,Oz.g13],fun j x U p' q'=>by
  rw [Oz.g12] at p' q'
  obtain⟨c,hc,rfl⟩:=Oz.g11.mp p'
  rw [hc] at q'
  cases q'
  exact((cps c (Oz.g16 hc)).ex0 y6).sta⟩
 rw [← hV]
 exact nh (y6.get q5 Oz.g0) (by exact Oz.o910 l1 l2 l3 l4) (by have:=y6.len; exact Oz.o911 l5 this) r5
end
end N14
end Sk
set_option autoImplicit false
namespace Sk
namespace N14
section
variable {n:Nat}{h h' : HP}{i d k r s q f lo hi i2 d2 k2 i3 d3 k3 a b:Nat}{w N c v x u:Int}{H:Nat}{K K2 M J:List Int}{l:LOC}{cl:CallO}{s0 s1 s2:Int}{V:Vw}{x1 x2:AV}{t4 t5 t6 t7:Option AV}
noncomputable def tuN:CE:=(.cmp .ne (.call 28 (.cons (.loc 0) (.cons (.loc 3) .nil))) (.call 28 (.cons (.call 29 (.cons (.attr (.loc 0) 0) (.cons (.attr (.loc 0) 1) (.cons (.bf .sorted (.cons (.loc 7) .nil)) .nil)))) (.cons (.loc 3) .nil))))
theorem D7 (z:Zz w H W) (L:La h i d k w H J) (p:Spo h s w H s0 s1 s2) (hq:h[q]?=some (.list (K.map .int))) (hs:jf K=J) (few:K.length<64) :
  ∃ h',ev G (ae G W (n+6)) tuN (tl8 i r x1 s t4 t5 t6 (some (.ref q))) h=.ok (.bool false) h'∧Ex [] h h' := by
 refine Oz.z fun ζ η=>?_
 obtain⟨q1,h1,e1,y1,st1⟩:=j8 (n:=n) (l:=tl8 i r x1 s t4 t5 t6 (some (.ref q))) (a:=0) (b:=3) z L p rfl rfl
 have L1:=L.ex0 y1
 have e2:=vh (y1.get hq Oz.g0) few
 rw [hs] at e2
 obtain⟨h2,hh2⟩:∃ h2:HP,h2=h1++[.list (J.map .int)]:=⟨_,rfl⟩
 rw [← hh2] at e2
 have y2:Ex [] h1 h2:=hh2 ▸ Ex.app
 have q2:h2[h1.length]?=some (.list (J.map .int)):=by rw [hh2]; exact ak
 obtain⟨i3,d3,k3,h3,e3,M3,y3,_,_⟩:=ig (n:=n+2) z q2 L.kp L.few
 have y13:=y2.trans y3
 obtain⟨q4,h4,e4,y4,st4⟩:=vp (n:=n) z M3 (p.ex0 (y1.trans y13)).at_ p.rg
 refine η ?_
 exact⟨h4,az e1 (ax (ag (ax (ag (L1.ea rfl rfl) (ag (L1.ea rfl rfl) (ag (b7 (aa rfl) e2) aj))) e3) (es1 rfl)) e4) (zg (st1.then0 (Oz.g3 _) (y13.trans y4)) st4.now),y1.trans (y13.trans y4)⟩
theorem J1 (z:Zz w H W) (L:La h i d k w H K) (few:K.length≤40) (hr:h[r]?=some (.list (K.map .int))) (rk:r≠k) (p:Spo h s w H s0 s1 s2) (sk:s≠k) (st:Sta (TO w H K s0 s1 s2) x1 lo hi h) (hhi:hi≤h.length) (dlo:d<lo) (klo:k<lo) :
  ∃ h',ae G W (n+7) 38 [.ref i,.ref r,x1,.ref s] h=.ok (.bool true) h'∧La h' i d k w H K∧Ex [d,k] h h' := by
 refine Oz.z fun ζ η=>?_
 obtain⟨b0,b1⟩:=p.rg s2 (.tail _ (.head _))
 obtain⟨N,hN⟩:∃ N,N=s2:=⟨_,rfl⟩
 have e0:ev G (ae G W (n+6)) (.item (.loc 3) (.int 2)) (tl8 i r x1 s Option.none Option.none Option.none Option.none) h=.ok (.int N) h:=by rw [hN]; exact bc (aa rfl) ai (bh (k:=2) p.at_ rfl)
 rw [← hN] at b0 b1
 have ld:=au L.flds
 have lk:=au L.list
 obtain⟨q5,q6,h1,h2,e1,e2,y2,sh,sk'⟩:=Ji (n:=n) (r:=r) (s:=s) (x1:=x1) (t5:=Option.none) (t6:=Option.none) (t7:=Option.none) z L b0 b1
 have hr2:=y2.get hr Oz.g0
 have e3:=kr (G:=G) (cl:=ae G W (n+6)) (l:=tl8 i r x1 s (some (.int N)) (some (.ref q5)) (some (.ref q6)) Option.none) (s:=1) (m:=8) (p:=fun x=>!decide (x=N)) (c:=.cmp .ne (.loc 8) (.loc 4)) rfl hr2 rfl (by exact Oz.o912 few) (fun x=>az (aa rfl) (aa rfl) qx)
 obtain⟨F,hF⟩:∃ F,F=K.filter fun x=>!decide (x=N):=⟨_,rfl⟩
 rw [← hF] at e3
 have fl:F.length≤40:=by rw [hF]; exact Oz.g2 (List.length_filter_le _ _) few
 have mF:∀ x,x∈F↔x∈K∧x≠N:=fun x=>by rw [hF,Oz.g25]; simp
 have sF:F.Pairwise (·<·):=by rw [hF]; exact L.kp.srt.sublist List.filter_sublist
 obtain⟨h3,hh3⟩:∃ h3:HP,h3=h2++[.list (F.map .int)]:=⟨_,rfl⟩
 refine η ?_
 rw [← hh3] at e3
 have y3:Ex [] h2 h3:=hh3 ▸ Ex.app
 have q3:h3[h2.length]?=some (.list (F.map .int)):=by rw [hh3]; exact ak
 have y03:=y2.trans y3
 have L3:=L.ex0 y03
 have hr3:=y03.get hr Oz.g0
 have p3:=p.ex0 y03
 have l2:=y2.len
 have l3:=y03.len
 have fin:∀ {h' : HP},Ex [d,k] h3 h'→Sta (TO w H K s0 s1 s2) x1 lo hi h'∧∀ h'',Ex [] h' h''→cj .eq (.ref q5) (.ref q6) h''=.ok (.bool true) h'' := fun y =>
  ⟨(st.ex0 y03 hhi).ex y (fun t ht=>by simp at ht; exact Oz.o891 dlo klo ht) (by exact Oz.o309 hhi l3),fun h'' y'=>by
   have y:=y.trans y'.up
   exact Jb (Nk.eq ((sh.ex0 y3 (Oz.g3 _)).ex y (fun t ht=>by simp at ht; exact Oz.o891 ld lk ht) y3.len).now ((sk'.ex0 y3 (Oz.g3 _)).ex y (fun t ht=>by simp at ht; exact Oz.o891 ld lk ht) y3.len).now (by decide))⟩
 have inI:∀ {h' : HP}(t:Bool) (t7:Option AV),h'[r]?=some (.list (K.map .int))→ev G (ae G W (n+6)) (.isin t (.loc 4) (.loc 1)) (tl8 i r x1 s (some (.int N)) (some (.ref q5)) (some (.ref q6)) t7) h'=.ok (.bool (t ^^ decide (N∈K))) h' := fun t t7 e=>ii (aa rfl) (aa rfl) (ju e)
 have pre:∀ {rest:CS}{rr:RS},exec G (ae G W (n+6)) W rest (tl8 i r x1 s (some (.int N)) (some (.ref q5)) (some (.ref q6)) (some (.ref h2.length))) h3=rr→exec G (ae G W (n+6)) W (.seq (.asg 4 (.item (.loc 3) (.int 2))) (.seq (.asg 5 tuH) (.seq (.asg 6 tuK) (.seq (.asg 7 (.comp (.loc 8) .val (.cons (.loc 1) .nil) (.cmp .ne (.loc 8) (.loc 4)))) rest)))) (tl8 i r x1 s Option.none Option.none Option.none Option.none) h=rr:=fun e=>af (am e0) (af (am e1) (af (am e2) (af (am e3) e)))
 by_cases c:N∈K
 ·rw [decide_eq_true c] at inI
  refine Oz.z fun ζ1 η1=>?_
  obtain⟨K4,v4,h4,e4,L4,m4,y4,_⟩:=js (n:=n+3) z L3 c
  have hK4:K4=F:=gu L4.kp.srt sF fun x=>(m4 x).trans (mF x).symm
  subst hK4
  have hr4:=bu hr3 L3.toLad y4 rk
  have p4:=p3.exL L3.toLad y4 sk
  have q4:=bu q3 L3.toLad y4 (by exact Oz.o747 lk l2)
  obtain⟨h5,e5,y5⟩:=vq (n:=n+1) (u:=N) z L4 (fun q=>((mF N).mp q).2 rfl)
  have L5:=L4.ex0 y5
  have hr5:=y5.get hr4 Oz.g0
  obtain⟨h6,e6,y6⟩:=D7 (n:=n) (r:=r) (x1:=x1) (t4:=some (.int N)) (t5:=some (.ref q5)) (t6:=some (.ref q6)) z L5 (p4.ex0 y5) (y5.get q4 Oz.g0) (ur (List.Perm.refl _) sF) (by exact Oz.o913 fl)
  have L6:=L5.ex0 y6
  have hr6:=y6.get hr5 Oz.g0
  obtain⟨K7,v7,h7,e7,L7,m7,_,y7,_⟩:=jy (n:=n+3) z L6 (by exact Oz.o914 fl) b0 b1 (fun q=>((mF N).mp q).2 rfl)
  have hK7:K7=K:=gu L7.kp.srt L.kp.srt fun x=>by
   rw [m7,mF]
   exact⟨fun u=>u.elim (fun e=>e ▸ c) fun u=>u.1,fun u=>(Classical.em (x=N)).imp id fun e=>⟨u,e⟩⟩
  subst hK7
  have y37:Ex [d,k] h3 h7:=y4.trans ((y5.trans y6).up.trans y7)
  obtain⟨h8,e8,y8⟩:=yh (n:=n) z L7 c
  have p8:=(p3.exL L3.toLad y37 sk).ex0 y8
  obtain⟨h9,e9,_,y9⟩:=j9 (n:=n) (l:=tl8 i r x1 s (some (.int N)) (some (.ref q5)) (some (.ref q6)) (some (.ref h2.length))) (a:=0) (b:=3) (e:=2) z (L7.ex0 y8) p8 rfl rfl rfl ((fin (y37.trans y8.up)).1) (by have:=y37.len; have:=y8.len; exact Oz.o910 hhi l3 ‹_› this)
  refine η1 ?_
  refine⟨h9,bj g.turns rfl (pre (af (be (inI false _ hr3) (af (ca (L3.em rfl g.m7 (es1 rfl) e4)) ah)) (af (ap (dw (ax (es2 rfl rfl) e5)) ah) (af (ap (inI true _ hr5) ah) (af (ap (ij (inI true _ hr5)) ah) (af (ap e6 ah) (af (ap (inI true _ hr6) ah)
   (af (ca (L6.em rfl g.m6 (es1 rfl) e7)) (av (bi (b5 (ax (es2 rfl rfl) e8) (b5 e9 (az (aa rfl) (aa rfl) ((fin y37).2 _ (y8.trans y9))))))))))))))),L7.ex0 (y8.trans y9),y03.up.trans (y37.trans (y8.trans y9).up)⟩
 ·rw [decide_eq_false c] at inI
  refine Oz.z fun ζ2 η2=>?_
  obtain⟨h4,e4,y4⟩:=vq (n:=n+1) (u:=N) z L3 c
  have L4:=L3.ex0 y4
  have hr4:=y4.get hr3 Oz.g0
  obtain⟨K5,v5,h5,e5,L5,m5,_,y5,_⟩:=jy (n:=n+3) z L4 (by exact Oz.o914 few) b0 b1 c
  have hr5:=bu hr4 L4.toLad y5 rk
  have p5:=(p3.ex0 y4).exL L4.toLad y5 sk
  obtain⟨h6,hh6⟩:∃ h6:HP,h6=h5++[.list (([N]:List Int).map .int)]:=⟨_,rfl⟩
  have y6:Ex [] h5 h6:=hh6 ▸ Ex.app
  have q6' : h6[h5.length]?=some (.list (([N]:List Int).map .int)):=by rw [hh6]; exact ak
  have e6:ev G (ae G W (n+6)) (.list (.cons (.loc 4) .nil)) (tl8 i r x1 s (some (.int N)) (some (.ref q5)) (some (.ref q6)) (some (.ref h2.length))) h5=.ok (.ref h5.length) h6:=by rw [hh6]; exact b3 (es1 rfl) rfl
  have e7:=Bq (y6.get hr5 Oz.g0) q6' (by simp; exact Oz.o915 few)
  obtain⟨h7,hh7⟩:∃ h7:HP,h7=h6++[.list ((K++[N]).map .int)]:=⟨_,rfl⟩
  rw [← hh7] at e7
  have y7:Ex [] h6 h7:=hh7 ▸ Ex.app
  have q7:h7[h6.length]?=some (.list ((K++[N]).map .int)):=by rw [hh7]; exact ak
  have y57:=y6.trans y7
  have L7:=L5.ex0 y57
  have hr7:=y57.get hr5 Oz.g0
  obtain⟨h8,e8,y8⟩:=yh (n:=n) z L7 ((m5 N).mpr (.inl rfl))
  have y58:=y57.trans y8
  have L8:=L5.ex0 y58
  obtain⟨h9,e9,y9⟩:=D7 (n:=n) (r:=r) (x1:=x1) (t4:=some (.int N)) (t5:=some (.ref q5)) (t6:=some (.ref q6)) z L8 (p5.ex0 y58) (y8.get q7 Oz.g0) (wo (M:=[N]) L.kp.srt (by simp) (fun x hx q=>c (by rw [Oz.g9.mp hx] at q; exact q)) L5.kp.srt (fun x=>by rw [m5,Oz.g9]; exact or_comm)) (by rw [Oz.g26]; show K.length+1<64; exact Oz.o916 few)
  have y59:=y58.trans y9
  have L9:=L5.ex0 y59
  have hr9:=y59.get hr5 Oz.g0
  obtain⟨K10,v10,h10,e10,L10,m10,y10,_⟩:=js (n:=n+3) z L9 ((m5 N).mpr (.inl rfl))
  have hK10:K10=K:=gu L10.kp.srt L.kp.srt fun x=>by
   rw [m10,m5]
   exact⟨fun u=>u.1.resolve_left u.2,fun u=>⟨.inr u,fun e=>c (e ▸ u)⟩⟩
  subst hK10
  have y310:Ex [d,k] h3 h10:=y4.up.trans (y5.trans (y59.up.trans y10))
  obtain⟨h11,e11,_,y11⟩:=j9 (n:=n) (l:=tl8 i r x1 s (some (.int N)) (some (.ref q5)) (some (.ref q6)) (some (.ref h6.length))) (a:=0) (b:=3) (e:=2) z L10 (p3.exL L3.toLad y310 sk) rfl rfl rfl ((fin y310).1) (by have:=y310.len; exact Oz.o887 hhi l3 this)
  refine η2 ?_
  refine⟨h11,bj g.turns rfl (pre (af (ap (inI false _ hr3) ah) (af (ap (dw (ax (es2 rfl rfl) e4)) ah) (af (be (inI true _ hr4) (af (ca (L4.em rfl g.m6 (es1 rfl) e5)) (af (am (aq (aa rfl) e6 e7)) ah)))
   (af (ap (b5 (inI true _ hr7) (dw (ax (es2 rfl rfl) e8))) ah) (af (ap e9 ah) (av (be (inI true _ hr9) (af (ca (L9.em rfl g.m7 (es1 rfl) e10)) (av (bi (b5 e11 (az (aa rfl) (aa rfl) ((fin y310).2 _ y11)))))))))))))),L10.ex0 y11,y03.up.trans (y310.trans y11.up)⟩
end
end N14
end Sk
set_option autoImplicit false
namespace Sk
namespace N14
noncomputable def gz (K:List Int) (c:Int):List Int:=K.filter fun x=>decide (x<c)
noncomputable def fh (K:List Int) (c:Int):List Int:=K.filter fun x=>decide (c≤x)
structure Od (h:HP) (d k r s q7 d2 k2 lo6 hi6 lo10 hi10:Nat):Prop where
 nd:d≠d2
 nk:k≠k2
 rk:r≠k
 rk2:r≠k2
 qk:q7≠k
 qk2:q7≠k2
 sk:s≠k
 sk2:s≠k2
 a6:d<lo6∧k<lo6
 b6:hi6≤d2∧hi6≤k2
 a10:d<lo10∧k<lo10
 b10:d2<lo10∧k2<lo10
 h6:hi6≤h.length
 h10:hi10≤h.length
structure S14 (h:HP) (i d k r s q7 i2 d2 k2:Nat) (w:Int) (H:Nat) (K:List Int) (c s0 s1 s2:Int) (J:List Int) (x6 x10:AV) (lo6 hi6 lo10 hi10:Nat):Prop where
 L:La h i d k w H J
 P:La h i2 d2 k2 w H (fh K c)
 row:h[r]?=some (.list (K.map .int))
 rest:h[q7]?=some (.list ((fh K c).map .int))
 p:Spo h s w H s0 s1 s2
 t6:Sta (TO w H K s0 s1 s2) x6 lo6 hi6 h
 t10:Sta (TO w H (fh K c) s0 s1 s2) x10 lo10 hi10 h
 o:Od h d k r s q7 d2 k2 lo6 hi6 lo10 hi10
section
variable {n:Nat}{h h' : HP}{i d k r s q7 i2 d2 k2 lo6 hi6 lo10 hi10 i8 d8 k8:Nat}{w c:Int}{H:Nat}{K J J' : List Int}{l:LOC}{cl:CallO}{s0 s1 s2:Int}{x6 x10:AV}{t4 t5 t6 t7 t8 t9 t10 t11 t12 t13:Option AV}
theorem Od.up (o:Od h d k r s q7 d2 k2 lo6 hi6 lo10 hi10) (hl:h.length≤h'.length):Od h' d k r s q7 d2 k2 lo6 hi6 lo10 hi10:=⟨o.nd,o.nk,o.rk,o.rk2,o.qk,o.qk2,o.sk,o.sk2,o.a6,o.b6,o.a10,o.b10,Oz.g2 o.h6 hl,Oz.g2 o.h10 hl⟩
theorem S14.ex0 (S:S14 h i d k r s q7 i2 d2 k2 w H K c s0 s1 s2 J x6 x10 lo6 hi6 lo10 hi10) (y:Ex [] h h'):S14 h' i d k r s q7 i2 d2 k2 w H K c s0 s1 s2 J x6 x10 lo6 hi6 lo10 hi10 :=
 ⟨S.L.ex0 y,S.P.ex0 y,y.get S.row Oz.g0,y.get S.rest Oz.g0,S.p.ex0 y,S.t6.ex0 y S.o.h6,S.t10.ex0 y S.o.h10,S.o.up y.len⟩
theorem S14.exL (S:S14 h i d k r s q7 i2 d2 k2 w H K c s0 s1 s2 J x6 x10 lo6 hi6 lo10 hi10) (L' : La h' i d k w H J') (y:Ex [d,k] h h'):S14 h' i d k r s q7 i2 d2 k2 w H K c s0 s1 s2 J' x6 x10 lo6 hi6 lo10 hi10:=by
 have a6:=S.o.a6
 have a10:=S.o.a10
 exact⟨L',S.P.exL S.L.toLad y S.o.nd.symm S.o.nk.symm,bu S.row S.L.toLad y S.o.rk,bu S.rest S.L.toLad y S.o.qk,S.p.exL S.L.toLad y S.o.sk,S.t6.ex y (fun t ht=>by simp at ht; exact Oz.o891 a6.1 a6.2 ht) S.o.h6,S.t10.ex y (fun t ht=>by simp at ht; exact Oz.o891 a10.1 a10.2 ht) S.o.h10,S.o.up y.len⟩
noncomputable def lcT:CE:=(.or (.cmp .ne (.call 28 (.cons (.loc 0) (.cons (.loc 3) .nil))) (.loc 6)) (.cmp .ne (.call 28 (.cons (.loc 9) (.cons (.loc 3) .nil))) (.loc 10)))
theorem S14.same (S:S14 h i d k r s q7 i2 d2 k2 w H K c s0 s1 s2 K x6 x10 lo6 hi6 lo10 hi10) (z:Zz w H W) (l0:l[0]?=some (some (.ref i))) (l3:l[3]?=some (some (.ref s))) (l6:l[6]?=some (some x6)) (l9:l[9]?=some (some (.ref i2))) (l10:l[10]?=some (some x10)) :
  ∃ h',ev G (ae G W (n+6)) lcT l h=.ok (.bool false) h'∧Ex [] h h' := by
 refine Oz.z fun ζ η=>?_
 obtain⟨h1,_,e1,y1⟩:=j9 (n:=n) z S.L S.p l0 l3 l6 S.t6 S.o.h6
 have S1:=S.ex0 y1
 obtain⟨h2,_,e2,y2⟩:=j9 (n:=n) z S1.P S1.p l9 l3 l10 S1.t10 S1.o.h10
 refine η ?_
 exact⟨h2,eu e1 e2,y1.trans y2⟩
theorem S14.pour (S:S14 h i d k r s q7 i2 d2 k2 w H K c s0 s1 s2 (gz K c) x6 x10 lo6 hi6 lo10 hi10) (z:Zz w H W) (kp:Kept w H K) (few:K.length≤40) :
  ∃ h',ae G W (n+4) 23 [.ref i,.ref i2] h=.ok .none h'∧S14 h' i d k r s q7 i2 d2 k2 w H K c s0 s1 s2 K x6 x10 lo6 hi6 lo10 hi10∧Ex [d,k] h h' := by
 refine Oz.z fun ζ η=>?_
 obtain⟨K',h',e,L',m,y⟩:=qp (n:=n) z S.L S.P (fun x hx q=>by have:=of_decide_eq_true (Oz.g25.mp hx).2; have:=of_decide_eq_true (Oz.g25.mp q).2; exact Oz.o943 ‹_› this) (by have:(gz K c).length≤K.length:=List.length_filter_le _ _; have:(fh K c).length≤K.length:=List.length_filter_le _ _; exact Oz.o883 few ‹_› this)
 have hK:K'=K:=gu L'.kp.srt kp.srt fun x=>by
  rw [m]
  unfold gz fh
  rw [Oz.g25,Oz.g25,decide_eq_true_iff,decide_eq_true_iff]
  exact⟨fun u=>u.elim (·.1) (·.1),fun u=>(Int.lt_or_le x c).imp (⟨u,·⟩) (⟨u,·⟩)⟩
 subst hK
 refine η ?_
 exact⟨h',e,S.exL L' y,y⟩
noncomputable abbrev ve (i r:Nat) (c:Int) (s:Nat) (t4 t5 t6 t7 t8 t9 t10 t11 t12 t13:Option AV):LOC:=[some (.ref i),some (.ref r),some (.int c),some (.ref s),t4,t5,t6,t7,t8,t9,t10,t11,t12,t13]
noncomputable def lcA:CS:=(.ite (.or (.not (.call 38 (.cons (.loc 0) (.cons (.loc 1) (.cons (.loc 6) (.cons (.loc 3) .nil)))))) (.not (.call 36 (.cons (.loc 1) (.cons (.loc 6) (.cons (.list (.cons (.loc 4) (.cons (.loc 5) .nil))) (.cons (.loc 3) .nil))))))) cg .skip)
noncomputable def lcB (rest:CS):CS:=(.seq (.asg 4 (.attr (.loc 0) 0)) (.seq (.asg 5 (.attr (.loc 0) 1)) (.seq (.asg 6 (.call 28 (.cons (.loc 0) (.cons (.loc 3) .nil)))) (.seq lcA
 (.seq (.asg 7 (.comp (.loc 14) .val (.cons (.loc 1) .nil) (.cmp .ge (.loc 14) (.loc 2)))) (.seq (.asg 8 (.call 29 (.cons (.loc 4) (.cons (.loc 5) (.cons (.comp (.loc 14) .val (.cons (.loc 1) .nil) (.cmp .lt (.loc 14) (.loc 2))) .nil)))))
 (.seq (.asg 9 (.call 22 (.cons (.loc 0) (.cons (.loc 2) .nil)))) (.seq (.asg 10 (.call 28 (.cons (.call 29 (.cons (.loc 4) (.cons (.loc 5) (.cons (.loc 7) .nil)))) (.cons (.loc 3) .nil)))) rest))))))))
theorem Mp (z:Zz w H W) (L:La h i d k w H K) (few:K.length≤40) (hr:h[r]?=some (.list (K.map .int))) (rk:r≠k) (p:Spo h s w H s0 s1 s2) (sk:s≠k) (c0:0≤c) (c1:c≤w^H) :
  Oz.E14 fun q6 q7 i8 d8 k8 i2 d2 k2 q10 h' lo6 hi6 lo10 hi10=>(∀ {rest:CS}{rr:RS},exec G (ae G W (n+8)) W rest (ve i r c s (some (.int w)) (some (.int (H:Nat))) (some (.ref q6)) (some (.ref q7)) (some (.ref i8)) (some (.ref i2)) (some (.ref q10)) Option.none Option.none Option.none) h'=rr→exec G (ae G W (n+8)) W (lcB rest) (ve i r c s Option.none Option.none Option.none Option.none Option.none Option.none Option.none Option.none Option.none Option.none) h=rr) ∧
   S14 h' i d k r s q7 i2 d2 k2 w H K c s0 s1 s2 (gz K c) (.ref q6) (.ref q10) lo6 hi6 lo10 hi10∧La h' i8 d8 k8 w H (gz K c)∧Ex [d,k] h h' := by
 have ld:=au L.flds
 have lk:=au L.list
 have lr:=au hr
 have ls:=au p.at_
 refine Oz.z fun ζ η=>?_
 obtain⟨q6,h1,e1,y1,st1⟩:=j8 (n:=n+2) (l:=ve i r c s (some (.int w)) (some (.int (H:Nat))) Option.none Option.none Option.none Option.none Option.none Option.none Option.none Option.none) (a:=0) (b:=3) z L p rfl rfl
 have L1:=L.ex0 y1
 have hr1:=y1.get hr Oz.g0
 obtain⟨h2,e2,L2,y2⟩:=J1 (n:=n+1) z L1 few hr1 rk (p.ex0 y1) sk st1 (Oz.g3 _) ld lk
 have hr2:=bu hr1 L1.toLad y2 rk
 have p2:=(p.ex0 y1).exL L1.toLad y2 sk
 have st2:=st1.ex y2 (fun t ht=>by simp at ht; exact Oz.o891 ld lk ht) (Oz.g3 _)
 obtain⟨h3,hh3⟩:∃ h3:HP,h3=h2++[.list [.int w,.int (H:Nat)]]:=⟨_,rfl⟩
 have y3:Ex [] h2 h3:=hh3 ▸ Ex.app
 have q3:h3[h2.length]?=some (.list [.int w,.int (H:Nat)]):=by rw [hh3]; exact ak
 have e3' : ev G (ae G W (n+8)) (.list (.cons (.loc 4) (.cons (.loc 5) .nil))) (ve i r c s (some (.int w)) (some (.int (H:Nat))) (some (.ref q6)) Option.none Option.none Option.none Option.none Option.none Option.none Option.none) h2=.ok (.ref h2.length) h3:=by rw [hh3]; exact b3 (es2 rfl rfl) rfl
 obtain⟨h4,e4',y4⟩:=J0 (n:=n+1) z L.kp few (y3.get hr2 Oz.g0) q3 (p2.ex0 y3) (st2.ex0 y3 y2.len) (by have:=y2.len; have:=y3.len; exact Oz.o309 ‹_› this)
 have y24:=y3.trans y4
 have hr4:=y24.get hr2 Oz.g0
 have y04:Ex [d,k] h h4:=y1.up.trans (y2.trans y24.up)
 have e5' := kr (G:=G) (cl:=ae G W (n+8)) (l:=ve i r c s (some (.int w)) (some (.int (H:Nat))) (some (.ref q6)) Option.none Option.none Option.none Option.none Option.none Option.none Option.none) (s:=1) (m:=14) (p:=fun x=>decide (c≤x)) (c:=.cmp .ge (.loc 14) (.loc 2)) rfl hr4 rfl (by exact Oz.o912 few) (fun x=>az (aa rfl) (aa rfl) Ik)
 obtain⟨h5,hh5⟩:∃ h5:HP,h5=h4++[.list ((fh K c).map .int)]:=⟨_,rfl⟩
 have e5:ev G (ae G W (n+8)) _ _ h4=.ok (.ref h4.length) (h4++[.list ((fh K c).map .int)]):=e5'
 rw [← hh5] at e5
 have y5:Ex [] h4 h5:=hh5 ▸ Ex.app
 have q5:h5[h4.length]?=some (.list ((fh K c).map .int)):=by rw [hh5]; exact ak
 have e6' := kr (G:=G) (cl:=ae G W (n+8)) (l:=ve i r c s (some (.int w)) (some (.int (H:Nat))) (some (.ref q6)) (some (.ref h4.length)) Option.none Option.none Option.none Option.none Option.none Option.none) (s:=1) (m:=14) (p:=fun x=>decide (x<c)) (c:=.cmp .lt (.loc 14) (.loc 2)) rfl (y5.get hr4 Oz.g0) rfl (by exact Oz.o912 few) (fun x=>az (aa rfl) (aa rfl) mr)
 obtain⟨h6,hh6⟩:∃ h6:HP,h6=h5++[.list ((gz K c).map .int)]:=⟨_,rfl⟩
 have e6:ev G (ae G W (n+8)) _ _ h5=.ok (.ref h5.length) (h5++[.list ((gz K c).map .int)]):=e6'
 rw [← hh6] at e6
 have y6:Ex [] h5 h6:=hh6 ▸ Ex.app
 have q6' : h6[h5.length]?=some (.list ((gz K c).map .int)):=by rw [hh6]; exact ak
 have kl:Kept w H (gz K c):=⟨L.kp.srt.sublist List.filter_sublist,fun y hy=>L.kp.rng y (Oz.g25.mp hy).1⟩
 have ku:Kept w H (fh K c):=⟨L.kp.srt.sublist List.filter_sublist,fun y hy=>L.kp.rng y (Oz.g25.mp hy).1⟩
 have ll:(gz K c).length≤40:=Oz.g2 (List.length_filter_le _ _) few
 have lu:(fh K c).length≤40:=Oz.g2 (List.length_filter_le _ _) few
 obtain⟨i8,d8,k8,h7,e7,M7,y7,dl8,kl8⟩:=ig (n:=n+4) z q6' kl (by exact Oz.o881 ll)
 have y47:=y5.trans (y6.trans y7)
 have L7:=(L2.ex0 y24).ex0 y47
 obtain⟨i2,d2,k2,h8,e8',L8,P8,y8,dl2,kl2⟩:=Iz (n:=n+4) (c:=c) z L7 c0 c1
 have L8:La h8 i d k w H (gz K c):=L8
 have P8:La h8 i2 d2 k2 w H (fh K c):=P8
 have r7:=(y6.trans y7).get q5 Oz.g0
 have l4:=y04.len
 have q8:=bu r7 L7.toLad y8 (by exact Oz.o747 lk l4)
 have hr8:=bu (y47.get hr4 Oz.g0) L7.toLad y8 rk
 have p8:=((p2.ex0 y24).ex0 y47).exL L7.toLad y8 sk
 have l6:=(y5.trans y6).len
 have l7:=y47.len
 have M8:=M7.exL L7.toLad y8 (by exact Oz.o944 ld dl8 l4 l6) (by exact Oz.o944 lk kl8 l4 l6)
 have l2:=y2.len
 have l24:=y24.len
 have st8:=((st2.ex0 y24 l2).ex0 y47 (by exact Oz.o309 l2 l24)).ex y8 (fun t ht=>by simp at ht; exact Oz.o891 ld lk ht) (by exact Oz.o906 l7 l2 l24)
 obtain⟨i9,d9,k9,h9,e9,M9,y9,_,_⟩:=ig (n:=n+4) z q8 ku (by exact Oz.o881 lu)
 obtain⟨q10,h10,e10,y10,st10⟩:=vp (n:=n+2) z M9 (p8.ex0 y9).at_ p.rg
 refine η ?_
 have y810:=y9.trans y10
 have c8:=au P8.flds
 have c8' := au P8.list
 have c9:=y9.len
 have l8:=y8.len
 have l5:=au r7
 have l10:=y10.len
 have lh5:=au q5
 refine⟨q6,h4.length,i8,d8,k8,i2,d2,k2,q10,h10,h.length,h1.length,h9.length,h10.length,fun e=>af (am (L.ea rfl rfl)) (af (am (L.ea rfl rfl)) (af (am e1)
  (af (ap (eu (dw (ax (ag (aa rfl) (ag (aa rfl) (es2 rfl rfl))) e2)) (dw (ax (ag (aa rfl) (ag (aa rfl) (ag e3' (es1 rfl)))) e4'))) ah)
  (af (am e5) (af (am (ax (ag (aa rfl) (ag (aa rfl) (ag e6 aj))) e7)) (af (am (ax (es2 rfl rfl) e8')) (af (am (ax (ag (ax (ag (aa rfl) (es2 rfl rfl)) e9) (es1 rfl)) e10)) e))))))),
  ⟨L8.ex0 y810,P8.ex0 y810,y810.get hr8 Oz.g0,y810.get q8 Oz.g0,p8.ex0 y810,st8.ex0 y810 (by exact Oz.o945 dl2 l2 l24 c8 l5),st10,⟨by exact Oz.o946 ld dl2 l4 l5,by exact Oz.o946 lk kl2 l4 l5,rk,by exact Oz.o946 lr kl2 l4 l5,by exact Oz.o747 lk l4,by exact Oz.o947 kl2 l5,sk,by exact Oz.o946 ls kl2 l4 l5,by exact Oz.o948 ld lk,by exact Oz.o949 dl2 kl2 l2 l24 l5,by exact Oz.o950 ld lk dl2 l4 c8 c9 l5,by exact Oz.o951 c8 c8' c9,by exact Oz.o952 dl2 l2 l24 c8 c9 l5 l10,Oz.g3 _⟩⟩,M8.ex0 y810,y04.trans (y47.up.trans (y8.trans y810.up))⟩
end
end N14
end Sk
set_option autoImplicit false
namespace Sk
namespace N14
section
variable {n:Nat}{h h' : HP}{i d k r s q7 i2 d2 k2 lo6 hi6 lo10 hi10 i8 d8 k8:Nat}{w c:Int}{H:Nat}{K J J' : List Int}{l:LOC}{cl:CallO}{s0 s1 s2:Int}{x6 x10:AV}{t4 t5 t6 t7 t8 t9 t10 t11 t12 t13:Option AV}
noncomputable def lc9:CS:=(.ite (.or (.cmp .ne (.call 28 (.cons (.loc 9) (.cons (.loc 3) .nil))) (.loc 10)) (.cmp .ne (.call 28 (.cons (.loc 0) (.cons (.loc 3) .nil))) (.call 28 (.cons (.loc 8) (.cons (.loc 3) .nil))))) cg .skip)
noncomputable def Ov:CS:=(.ite (.or (.isC true (.call 23 (.cons (.loc 0) (.cons (.loc 9) .nil))) Option.none) lcT) cg .skip)
noncomputable def Ou:CS:=(.ite (.and (.cmp .ne (.loc 7) (.list .nil)) (.cmp .ne (.call 30 (.cons (.loc 0) (.cons (.loc 9) .nil))) (.int 2))) cg .skip)
noncomputable abbrev fp (i r:Nat) (c:Int) (s:Nat) (w:Int) (H:Nat) (x6:AV) (q7 i8 i2:Nat) (x10:AV) (t11 t12 t13:Option AV):LOC:=ve i r c s (some (.int w)) (some (.int (H:Nat))) (some x6) (some (.ref q7)) (some (.ref i8)) (some (.ref i2)) (some x10) t11 t12 t13
theorem Mn (S:S14 h i d k r s q7 i2 d2 k2 w H K c s0 s1 s2 (gz K c) x6 x10 lo6 hi6 lo10 hi10) (M:La h i8 d8 k8 w H (gz K c)) (z:Zz w H W) (kp:Kept w H K) (few:K.length≤40) :
  ∃ h',(∀ {rest:CS}{rr:RS},exec G (ae G W (n+8)) W rest (fp i r c s w H x6 q7 i8 i2 x10 t11 t12 t13) h'=rr→exec G (ae G W (n+8)) W (.seq lc9 (.seq Ov (.seq Ou rest))) (fp i r c s w H x6 q7 i8 i2 x10 t11 t12 t13) h=rr)∧S14 h' i d k r s q7 i2 d2 k2 w H K c s0 s1 s2 K x6 x10 lo6 hi6 lo10 hi10∧Ex [d,k] h h' := by
 refine Oz.z fun ζ η=>?_
 obtain⟨h1,_,e1,y1⟩:=j9 (n:=n+2) (l:=fp i r c s w H x6 q7 i8 i2 x10 t11 t12 t13) (a:=9) (b:=3) (e:=10) z S.P S.p rfl rfl rfl S.t10 S.o.h10
 have S1:=S.ex0 y1
 obtain⟨h2,_,e2,y2⟩:=wg (n:=n+2) (l:=fp i r c s w H x6 q7 i8 i2 x10 t11 t12 t13) (a:=0) (b:=3) (e:=8) z S1.L (M.ex0 y1) S1.p rfl rfl rfl
 have S2:=S1.ex0 y2
 obtain⟨h3,e3',S3,y3⟩:=S2.pour (n:=n+4) z kp few
 obtain⟨h4,e4',y4⟩:=S3.same (n:=n+2) (l:=fp i r c s w H x6 q7 i8 i2 x10 t11 t12 t13) z rfl rfl rfl rfl rfl
 have S4:=S3.ex0 y4
 obtain⟨_,e5'⟩:=qv (cl:=ae G W (n+8)) (l:=fp i r c s w H x6 q7 i8 i2 x10 t11 t12 t13) (a:=7) S4.rest rfl
 refine η ?_
 have y5:Ex [] h4 (h4++[.list []]):=Ex.app
 have S5:=S4.ex0 y5
 have y05:Ex [d,k] h (h4++[.list []]):=(y1.trans y2).up.trans (y3.trans (y4.trans y5).up)
 by_cases hu:fh K c=[]
 ·rw [hu] at e5'
  exact⟨_,fun e=>af (ap (eu e1 e2) ah) (af (ap (eu (jo (ax (es2 rfl rfl) e3')) e4') ah) (af (ap (ij e5') ah) e)),S5,y05⟩
 ·rw [isE hu] at e5'
  refine Oz.z fun ζ1 η1=>?_
  obtain⟨x,hx⟩:=List.exists_mem_of_ne_nil _ hu
  obtain⟨h6,e6,y6⟩:=oo (n:=n+3) S5.L S5.P ⟨x,hx,(Oz.g25.mp hx).1⟩
  obtain⟨h7,e7',y7⟩:=tz e6 y6
  refine η1 ?_
  exact⟨h7,fun e=>af (ap (eu e1 e2) ah) (af (ap (eu (jo (ax (es2 rfl rfl) e3')) e4') ah) (af (ap (b5 e5' (az (ax (es2 rfl rfl) e7') ai rfl)) ah) e)),S5.ex0 y7,y05.trans y7.up⟩
noncomputable def Ot:CS:=(.asg 11 (.new 0 (.cons (.loc 4) (.cons (.bin .add (.bin .mod (.loc 5) (.int 12)) (.int 1)) .nil))))
noncomputable def Os:CS:=(.ite (.and (.cmp .lt (.loc 4) (.int 4)) (.cmp .eq (.bin .mod (.loc 5) (.int 2)) (.int 0))) (.seq (.asg 11 (.new 0 (.cons (.bin .mul (.loc 4) (.loc 4)) (.cons (.bin .fdiv (.loc 5) (.int 2)) .nil)))) .skip) .skip)
theorem Ht (z:Zz w H W):Oz.E6 fun i11 d11 k11 w' H' h'=>(∀ {rest:CS}{rr:RS},exec G (ae G W (n+8)) W rest (fp i r c s w H x6 q7 i8 i2 x10 (some (.ref i11)) t12 t13) h'=rr→exec G (ae G W (n+8)) W (.seq Ot (.seq Os rest)) (fp i r c s w H x6 q7 i8 i2 x10 t11 t12 t13) h=rr)∧La h' i11 d11 k11 w' H' []∧Zz w' H' W∧(w'≠w∨H'≠H)∧Ex [] h h'∧h.length≤d11∧h.length≤k11:=by
 have hw:=z.w2
 have hw9:=z.w9
 have h1:=z.h1
 have h12:=z.h12
 have fm1:(H:Int).fmod 12=((H % 12:Nat):Int):=by rw [Int.fmod_eq_emod_of_nonneg _ (by decide)]; exact Oz.o917
 have fm2:(H:Int).fmod 2=((H % 2:Nat):Int):=by rw [Int.fmod_eq_emod_of_nonneg _ (by decide)]; exact Oz.o918
 have fd2:(H:Int).fdiv 2=((H / 2:Nat):Int):=by rw [Int.fdiv_eq_ediv_of_nonneg _ (by decide)]; exact Oz.o880
 have z1:Zz w (H % 12+1) W:=⟨z.w2,z.w9,by exact Oz.o919,by exact Oz.o920,z.big⟩
 have eh:ev G (ae G W (n+8)) (.bin .add (.bin .mod (.loc 5) (.int 12)) (.int 1)) (fp i r c s w H x6 q7 i8 i2 x10 t11 t12 t13) h=.ok (.int ((H % 12+1:Nat):Int)) h:=by
  have:=aq (aq (aa (G:=G) (cl:=ae G W (n+8)) (l:=fp i r c s w H x6 q7 i8 i2 x10 t11 t12 t13) (h:=h) (k:=5) rfl) (ai (i:=12)) (fy (by decide))) (ai (i:=1)) b8
  rw [this,fm1]; rfl
 obtain⟨ha,ea,La1,ya⟩:=n9 (h:=h) (n:=n+6) (l:=fp i r c s w H x6 q7 i8 i2 x10 t11 t12 t13) (ea:=.loc 4) (eb:=.bin .add (.bin .mod (.loc 5) (.int 12)) (.int 1)) z1 (aa rfl) eh
 have t1:=az (G:=G) (cl:=ae G W (n+8)) (h:=ha) (l:=fp i r c s w H x6 q7 i8 i2 x10 (some (.ref (h.length+1))) t12 t13) (a:=.loc 4) (b:=.int 4) (aa rfl) ai mr
 have t2:=az (G:=G) (cl:=ae G W (n+8)) (h:=ha) (l:=fp i r c s w H x6 q7 i8 i2 x10 (some (.ref (h.length+1))) t12 t13) (a:=.bin .mod (.loc 5) (.int 2)) (b:=.int 0) (aq (aa rfl) ai (fy (by decide))) ai oj
 by_cases c1:w<4
 ·rw [decide_eq_true c1] at t1
  by_cases c2:H % 2=0
  ·rw [decide_eq_true (show(H:Int).fmod 2=0 by rw [fm2,c2]; rfl)] at t2
   have ww:4≤w*w∧w*w≤9∧w*w≠w:=by
    rcases(by exact Oz.o921 hw c1:w=2∨w=3) with rfl | rfl <;> decide
   have z2:Zz (w*w) (H / 2) W:=⟨by exact Oz.o922 ww.1,by exact Oz.o717 ww.2.1,by exact Oz.o923 h1 c2,by exact Oz.o924 h12,z.big⟩
   have ew:ev G (ae G W (n+8)) (.bin .mul (.loc 4) (.loc 4)) (fp i r c s w H x6 q7 i8 i2 x10 (some (.ref (h.length+1))) t12 t13) ha=.ok (.int (w*w)) ha:=aq (aa rfl) (aa rfl) (lj (decide_eq_true (.inr (by exact Oz.o925 hw c1))))
   have eh2:ev G (ae G W (n+8)) (.bin .fdiv (.loc 5) (.int 2)) (fp i r c s w H x6 q7 i8 i2 x10 (some (.ref (h.length+1))) t12 t13) ha=.ok (.int ((H / 2:Nat):Int)) ha:=by
    rw [← fd2]; exact aq (aa rfl) ai (et (by decide))
   obtain⟨hb,eb',Lb,yb⟩:=n9 (h:=ha) (n:=n+6) (l:=fp i r c s w H x6 q7 i8 i2 x10 (some (.ref (h.length+1))) t12 t13) (ea:=.bin .mul (.loc 4) (.loc 4)) (eb:=.bin .fdiv (.loc 5) (.int 2)) z2 ew eh2
   exact⟨_,_,_,_,_,hb,fun e=>af (am ea) (af (be (b5 t1 t2) (af (am eb') ah)) e),Lb,z2,.inl ww.2.2,ya.trans yb,ya.len,by have:=ya.len; exact Oz.o926 this⟩
  ·rw [decide_eq_false (show ¬ (H:Int).fmod 2=0 by rw [fm2]; exact Oz.o927 c2)] at t2
   exact⟨_,_,_,_,_,ha,fun e=>af (am ea) (af (ap (b5 t1 t2) ah) e),La1,z1,.inr (by exact Oz.o928),ya,Oz.g3 _,Nat.le_add_right _ _⟩
 ·rw [decide_eq_false c1] at t1
  exact⟨_,_,_,_,_,ha,fun e=>af (am ea) (af (ap (ij t1) ah) e),La1,z1,.inr (by exact Oz.o928),ya,Oz.g3 _,Nat.le_add_right _ _⟩
end
end N14
end Sk
set_option autoImplicit false
namespace Sk
namespace N14
section
variable {n:Nat}{h h' : HP}{i d k r s q7 i2 d2 k2 lo6 hi6 lo10 hi10 i8 d8 k8 i11 d11 k11:Nat}{w w' c:Int}{H H' : Nat}{K J J' : List Int}{l:LOC}{cl:CallO}{s0 s1 s2:Int}{x6 x10:AV}{t4 t5 t6 t7 t8 t9 t10 t11 t12 t13:Option AV}
noncomputable def Oq:CS:=(.asg 12 (.comp (.loc 14) .val (.cons (.slice (.loc 7) .none (.int 1) 0) .nil) (.cmp .lt (.loc 14) (.attr (.loc 11) 2))))
noncomputable def Oo:CS:=(.for1 13 .val (.cons (.loc 12) .nil) (vt 11 13))
noncomputable def On:CS:=(.ite (.or (.cmp .ne (.call 30 (.cons (.loc 11) (.cons (.loc 9) .nil))) (.int 1)) (.or (.cmp .ne (.meth (.loc 11) 8 .nil) (.loc 12)) (.cmp .ne (.call 30 (.cons (.new 0 (.cons (.bin .add (.bin .mod (.loc 4) (.int 8)) (.int 2)) (.cons (.loc 5) .nil))) (.cons (.loc 9) .nil))) (.int 1)))) cg .skip)
noncomputable def Om:CS:=(.ite (.or (.not (.call 32 (.cons (.loc 0) (.cons (.loc 1) (.cons (.loc 3) .nil))))) (.not (.call 39 (.cons (.loc 11) (.cons (.loc 12) .nil))))) cg .skip)
theorem Mm {hb:HP}(S:S14 hb i d k r s q7 i2 d2 k2 w H K c s0 s1 s2 K x6 x10 lo6 hi6 lo10 hi10) (y0:Ex [] hb h) (fd:hb.length≤d11) (fk:hb.length≤k11) (z:Zz w H W) (few:K.length≤40) (L0:La h i11 d11 k11 w' H' []) (z' : Zz w' H' W) (ne:w'≠w∨H'≠H) :
  Oz.E3 fun q12 t h'=>(∀ {rest:CS}{rr:RS},exec G (ae G W (n+8)) W rest (fp i r c s w H x6 q7 i8 i2 x10 (some (.ref i11)) (some (.ref q12)) t) h'=rr→exec G (ae G W (n+8)) W (.seq Oq (.seq Oo (.seq On (.seq Om rest)))) (fp i r c s w H x6 q7 i8 i2 x10 (some (.ref i11)) Option.none Option.none) h=rr)∧Ex [] hb h' := by
 have S0:=S.ex0 y0
 have lu:(fh K c).length≤40:=Oz.g2 (List.length_filter_le _ _) few
 have su:(fh K c).Pairwise (·<·):=S.P.kp.srt
 refine Oz.z fun ζ η=>?_
 obtain⟨T,hT⟩:∃ T,T=(fh K c).take 1:=⟨_,rfl⟩
 have so:=iw (st:=0) (lo:=.none) (hi:=.int 1) rfl rfl (.inl S0.rest) (by exact Oz.o904 lu)
 rw [show sl (fh K c) Option.none (some 1) 0=T by rw [hT]; exact wp 1] at so
 obtain⟨h1,hh1⟩:∃ h1:HP,h1=h++[.list (T.map .int)]:=⟨_,rfl⟩
 rw [← hh1] at so
 have y1:Ex [] h h1:=hh1 ▸ Ex.app
 have q1:h1[h.length]?=some (.list (T.map .int)):=by rw [hh1]; exact ak
 have L1:=L0.ex0 y1
 have lT:T.length≤1:=by rw [hT]; exact List.length_take_le _ _
 obtain⟨q12,xs,h2,e2,y2,hq12,g2,r2,_⟩:=jv (α:=Int) (lo:=0) (g:=some (h.length,.list (T.map AV.int))) (G:=G) (cl:=ae G W (n+8)) (h:=h) (l:=fp i r c s w H x6 q7 i8 i2 x10 (some (.ref i11)) Option.none Option.none) (elt:=.loc 14) (cond:=.cmp .lt (.loc 14) (.attr (.loc 11) 2)) (ik:=.val) (e:=AV.int) (p:=fun x=>decide (x<w'^H')) (V:=fun x=>One (.int x)) (L:=T)
  (ag (a:=.slice (.loc 7) .none (.int 1) 0) (iq (aa rfl) cw ai so) aj) y1 (bw q1) (by exact Oz.o929 lT) (Nat.zero_le _) (fun h' x=>b4 (x.get q1 Oz.g0))
  (fun x ζ h' y=>⟨h',az (aa rfl) ((L1.ex0 y).ea rfl rfl) mr,Ex.refl,fun ζ=>⟨_,h',aa rfl,Ex.refl,cy⟩⟩)
 obtain⟨O,hO⟩:∃ O,O=T.filter fun x=>decide (x<w'^H'):=⟨_,rfl⟩
 rw [← hO] at r2
 rw [pi r2] at g2
 have lO:O.length≤1:=by rw [hO]; exact Oz.g2 (List.length_filter_le _ _) lT
 have kO:Kept w' H' O:=⟨by rw [hO,hT]; exact(su.sublist (List.take_sublist _ _)).sublist List.filter_sublist,fun y hy=>by
  rw [hO,hT] at hy
  obtain⟨u1,u2⟩:=Oz.g25.mp hy
  exact⟨(S.P.kp.rng y (List.mem_of_mem_take u1)).1,of_decide_eq_true u2⟩⟩
 have L2:=L0.ex0 y2
 have ld:=au L0.flds
 have lk:=au L0.list
 have l1:=y1.len
 obtain⟨K',t,h3,e3',L3,m3,y3⟩:=uv (n:=n+5) (a:=11) (b:=13) (gr:=some (q12,.list (O.map .int))) (l:=fp i r c s w H x6 q7 i8 i2 x10 (some (.ref i11)) (some (.ref q12)) Option.none) z' (by decide) rfl (show 13<14 by decide) L2 (xs:=O) (iz kO.srt) kO.rng (fun ζ ζ=>Oz.g0) (by simp; exact Oz.o868 lO)
  (fun h' x=>b4 (x.get g2 (by simp; exact Oz.o930 hq12 ld lk l1)))
 refine η ?_
 have hK' : K'=O:=gu L3.kp.srt kO.srt fun x=>by rw [m3]; simp
 subst hK'
 have fr:∀ t∈[d11,k11],t∈([]:List Nat)∨hb.length≤t:=fun t ht=>.inr (by simp at ht; exact Oz.o931 fd fk ht)
 have y03:Ex [] hb h3:=(y0.trans y2).fresh y3 fr
 have S3:=S.ex0 y03
 have g3:=bu g2 L2.toLad y3 (by exact Oz.o902 hq12 lk l1)
 obtain⟨h4,e4',y4⟩:=Ca (ye (n:=n+6) L3 S3.P ne)
 have L4:=L3.ex0 y4
 have e5' := ni (n:=n+7) L4.toLad
 obtain⟨h5,hh5⟩:∃ h5:HP,h5=h4++[.list (K'.map .int)]:=⟨_,rfl⟩
 rw [← hh5] at e5'
 have y5:Ex [] h4 h5:=hh5 ▸ Ex.app
 have q5:h5[h4.length]?=some (.list (K'.map .int)):=by rw [hh5]; exact ak
 have hw:=z.w2
 have hw9:=z.w9
 have fmw:w.fmod 8=if w<8 then w else w - 8:=by
  rw [Int.fmod_eq_emod_of_nonneg _ (by decide)]
  split <;> (first | exact Oz.o932 hw ‹_› | exact Oz.o933 hw9 ‹_›)
 have z3:Zz (w.fmod 8+2) H W:=⟨by rw [fmw]; split <;> (first | exact Oz.o934 hw | exact Oz.o935 ‹_›),by rw [fmw]; split <;> (first | exact Oz.o936 ‹_› | exact Oz.o937 hw9),z.h1,z.h12,z.big⟩
 obtain⟨h6,e6,N6,y6⟩:=n9 (h:=h5) (n:=n+6) (l:=fp i r c s w H x6 q7 i8 i2 x10 (some (.ref i11)) (some (.ref q12)) t) (ea:=.bin .add (.bin .mod (.loc 4) (.int 8)) (.int 2)) (eb:=.loc 5) z3 (aq (aq (aa rfl) ai (fy (by decide))) ai b8) (aa rfl)
 have y36:=y4.trans (y5.trans y6)
 have S6:=S3.ex0 y36
 obtain⟨h7,e7',y7⟩:=Ca (ye (n:=n+6) N6 S6.P (.inl (by rw [fmw]; split <;> (first | exact Oz.o938 | exact Oz.o939))))
 have S7:=S6.ex0 y7
 refine Oz.z fun ζ1 η1=>?_
 obtain⟨h8,e8',y8⟩:=Ma (n:=n+1) z S7.L S7.p S7.row
 have y38:=y36.trans (y7.trans y8)
 obtain⟨h9,e9,y9⟩:=J4 (n:=n+2) z' (L3.ex0 y38) (by exact Oz.o940 lO) (y38.get g3 Oz.g0) (by exact Oz.o902 hq12 lk l1)
 refine η1 ?_
 exact⟨q12,t,h9,fun e=>af (am e2) (af (ft (es1 rfl) (bw g2) e3') (af (ap (eu (az (ax (es2 rfl rfl) e4') ai rfl) (eu (az (L4.em rfl g.m8 aj e5') (aa rfl) (Kz q5 ((y4.trans y5).get g3 Oz.g0))) (az (ax (ag e6 (es1 rfl)) e7') ai rfl))) ah)
  (af (ap (eu (dw (ax (ag (aa rfl) (es2 rfl rfl)) e8')) (dw (ax (es2 rfl rfl) e9))) ah) e))),(y03.trans y38).fresh y9 fr⟩
noncomputable def Ol:CS:=(.ite lcT cg .skip)
noncomputable def Oj:CS:=(.for1 13 .val (.cons (.loc 7) .nil) (wn 0 13))
noncomputable def Oi:CS:=(.ite (.or (.cmp .ne (.call 30 (.cons (.loc 0) (.cons (.loc 9) .nil))) (.int 0)) lcT) cg .skip)
noncomputable def Oh:CS:=(.seq (.ret (.call 33 (.cons (.loc 0) (.cons (.loc 9) (.cons (.loc 1) (.cons (.loc 7) (.cons (.loc 3) .nil))))))) .skip)
theorem Mo (S:S14 h i d k r s q7 i2 d2 k2 w H K c s0 s1 s2 K x6 x10 lo6 hi6 lo10 hi10) (z:Zz w H W) (few:K.length≤40) :
  ∃ h',exec G (ae G W (n+8)) W (.seq Ol (.seq Oj (.seq Oi Oh))) (fp i r c s w H x6 q7 i8 i2 x10 t11 t12 t13) h=.ret (.bool true) h'∧Ex [d,k,d2,k2] h h' := by
 refine Oz.z fun ζ η=>?_
 obtain⟨h1,e1,y1⟩:=S.same (n:=n+2) (l:=fp i r c s w H x6 q7 i8 i2 x10 t11 t12 t13) z rfl rfl rfl rfl rfl
 have S1:=S.ex0 y1
 have kp:=S.L.kp
 have lu:(fh K c).length≤40:=Oz.g2 (List.length_filter_le _ _) few
 have a6:=S.o.qk
 obtain⟨K',t,h2,e2,L2,m2,y2⟩:=Ea (n:=n+5) (a:=0) (b:=13) (gr:=some (q7,.list ((fh K c).map .int))) (l:=fp i r c s w H x6 q7 i8 i2 x10 t11 t12 t13) z (by decide) rfl (show 13<14 by decide) S1.L (xs:=fh K c) (iz S.P.kp.srt) (fun x hx=>(Oz.g25.mp hx).1)
  (fun h' x=>b4 (bu S1.rest S1.L.toLad x a6))
 refine η ?_
 have hK' : K'=gz K c:=gu L2.kp.srt (kp.srt.sublist List.filter_sublist) fun x=>by
  rw [m2]
  unfold gz fh
  rw [Oz.g25,Oz.g25,decide_eq_true_iff,decide_eq_true_iff]
  exact⟨fun u=>⟨u.1,Int.not_le.mp fun v=>u.2 ⟨u.1,v⟩⟩,fun u=>⟨u.1,fun v=>absurd v.2 (Int.not_le.mpr u.2)⟩⟩
 subst hK'
 have S2:=S1.exL L2 y2
 refine Oz.z fun ζ1 η1=>?_
 obtain⟨h3,e3',S3,y3⟩:=S2.pour (n:=n+3) z kp few
 have e3' := wt e3'
 obtain⟨h4,e4',y4⟩:=S3.same (n:=n+2) (l:=fp i r c s w H x6 q7 i8 i2 x10 t11 t12 t) z rfl rfl rfl rfl rfl
 have S4:=S3.ex0 y4
 obtain⟨h5,e5',y5⟩:=Hi (n:=n) z S4.L S4.P S4.o.nd S4.o.nk few lu S4.row S4.rest S4.o.rk S4.o.rk2 S4.o.qk S4.o.qk2 S4.p S4.o.sk S4.o.sk2
 refine η1 ?_
 refine⟨h5,af (ap e1 ah) (af (ft (es1 rfl) (bw S1.rest) e2) (af (ap (eu (az (ax (es2 rfl rfl) e3') ai rfl) e4') ah) (av (bi (ax (ag (aa rfl) (ag (aa rfl) (ag (aa rfl) (es2 rfl rfl)))) e5'))))),?_⟩
 exact y1.up.trans ((y2.mono (by simp)).trans ((y3.mono (by simp)).trans (y4.up.trans y5)))
theorem Ly (z:Zz w H W) (L:La h i d k w H K) (few:K.length≤40) (hr:h[r]?=some (.list (K.map .int))) (rk:r≠k) (p:Spo h s w H s0 s1 s2) (sk:s≠k) (c0:0≤c) (c1:c≤w^H) :
  ∃ h',ae G W (n+9) 40 [.ref i,.ref r,.int c,.ref s] h=.ok (.bool true) h'∧∀ vs,h[0]?=some (.const vs)→h'[0]?=some (.const vs):=by
 refine Oz.z fun ζ η=>?_
 obtain⟨q6,q7,i8,d8,k8,i2,d2,k2,q10,h1,lo6,hi6,lo10,hi10,f1,S1,M1,y1⟩:=Mp (n:=n) z L few hr rk p sk c0 c1
 obtain⟨h2,f2,S2,y2⟩:=Mn (n:=n) (t11:=Option.none) (t12:=Option.none) (t13:=Option.none) S1 M1 z L.kp few
 obtain⟨i11,d11,k11,w',H',h3,f3,L3,z',ne,y3,fd,fk⟩:=Ht (n:=n) (h:=h2) (i:=i) (r:=r) (c:=c) (s:=s) (x6:=.ref q6) (q7:=q7) (i8:=i8) (i2:=i2) (x10:=.ref q10) (t11:=Option.none) (t12:=Option.none) (t13:=Option.none) z
 obtain⟨q12,t,h4,f4,y4⟩:=Mm (n:=n) (i8:=i8) S2 y3 fd fk z few L3 z' ne
 obtain⟨h5,e5',y5⟩:=Mo (n:=n) (i8:=i8) (t11:=some (.ref i11)) (t12:=some (.ref q12)) (t13:=t) (S2.ex0 y4) z few
 refine η ?_
 refine⟨h5,bj g.lcut rfl (f1 (f2 (f3 (f4 e5')))),fun vs e=>?_⟩
 have ne0:∀ {h' : HP}{b:Nat}{o:AO},h'[0]?=some (.const vs)→h'[b]?=some o→o≠.const vs→0≠b:=fun e eb q u=>q (by rw [← u,e] at eb; exact(Option.some.inj eb).symm)
 have e2:=(y1.trans y2).get e (by have a:=ne0 e L.flds nofun; have b:=ne0 e L.list nofun; simp; exact Oz.o941 a b)
 have e4:=y4.get e2 Oz.g0
 have S4:=S2.ex0 y4
 have a1:=ne0 e4 S4.L.flds nofun
 have a2:=ne0 e4 S4.L.list nofun
 have a3:=ne0 e4 S4.P.flds nofun
 have a4:=ne0 e4 S4.P.list nofun
 exact y5.get e4 (by simp; exact Oz.o942 a1 a2 a3 a4)
end
end N14
end Sk
set_option autoImplicit false
namespace Sk
namespace N14
noncomputable def cel (k:Int):CE:=(.call 25 (.cons (.loc 0) (.cons (.int k) .nil)))
noncomputable def Mt:CS:=(.ite (.cmp .ne (.loc 6) (.list .nil)) (.seq (.setItem (.loc 10) (.int 1) (.item (.loc 6) (.bin .mod (.bin .fdiv (cel 2) (.int 5)) (.bf .len (.cons (.loc 6) .nil))))) .skip) .skip)
noncomputable def Ox:CS:=(.ite (.cmp .ne (.call 28 (.cons (.loc 5) (.cons (.loc 10) .nil))) (.call 28 (.cons (.call 29 (.cons (.loc 1) (.cons (.loc 2) (.cons (.loc 6) .nil)))) (.cons (.loc 10) .nil)))) cg .skip)
noncomputable def Ow:CS:=(.ite (.or (.not (.call 31 (.cons (.loc 5) (.cons (.bin .sub (.neg (.int 1)) (.loc 11)) .nil)))) (.not (.call 31 (.cons (.loc 5) (.cons (.bin .add (.bin .add (.loc 3) (.int 1)) (.loc 11)) .nil))))) cg .skip)
noncomputable def Ms:CS:=(.ite (.and (.cmp .eq (.bin .mod (.loc 11) (.int 3)) (.int 1)) (.cmp .ne (.loc 6) (.list .nil))) (.seq (.asg 12 (.item (.loc 6) (.bin .mod (.bin .fdiv (.loc 11) (.int 3)) (.bf .len (.cons (.loc 6) .nil))))) .skip) .skip)
noncomputable def Gr:CS:=(.seq (.asg 6 (.bf .sorted (.cons (.loc 6) .nil))) (.seq (.asg 9 (.call 26 (.cons (.bin .fdiv (cel 0) (.int 8)) (.cons (.loc 3) .nil)))) (.seq (.asg 10 (.list (.cons (.bin .add (.bin .fdiv (cel 1) (.int 12)) (cel 2)) (.cons (.int 0) (.cons (.loc 9) .nil)))))
 (.seq Mt (.seq Ox (.seq (.asg 11 (.bin .mod (cel 2) (.pow 10 15))) (.seq Ow (.seq (.asg 12 (.call 26 (.cons (cel 2) (.cons (.bin .add (.loc 3) (.int 1)) .nil)))) (.seq Ms (.seq (.ret (.call 40 (.cons (.loc 5) (.cons (.loc 6) (.cons (.loc 12) (.cons (.loc 10) .nil)))))) .skip))))))))))
noncomputable def Mr:CE:=(.bin .mul (.int 3) (.bin .add (.bin .mul (.int 4) (.bin .add (cel 1) (.bin .mul (.bin .mul (.int 17) (.loc 13)) (.loc 13)))) (.int 3)))
noncomputable def la8:CS:=(.ite (.cmp .eq (.bin .mod (cel 2) (.int 8)) (.int 3)) (.seq (.asg 7 (.comp Mr .range1 (.cons (.int 24) .nil) (.bool true))) .skip) .skip)
noncomputable def deB:CS:=(.seq (.ex (.call 27 (.cons (.loc 5) (.cons (.loc 6) (.cons (.loc 8) (.cons (.loc 3) .nil)))))) .skip)
noncomputable def Hk:CS:=(.seq (.asg 3 (.bin .mul (.loc 3) (.loc 1))) .skip)
noncomputable def c_law:CS:=(.seq (.asg 1 (.bin .add (.int 2) (.bin .mod (cel 0) (.int 8)))) (.seq (.asg 2 (.bin .add (.int 1) (.bin .mod (cel 1) (.int 12)))) (.seq (.asg 3 (.int 1)) (.seq (.for1 4 .range1 (.cons (.loc 2) .nil) Hk) (.seq (.asg 5 (.new 0 (.cons (.loc 1) (.cons (.loc 2) .nil))))
 (.seq (.asg 6 .dict0) (.seq (.asg 7 (.slice (.loc 0) (.int 3) (.int 18) 0)) (.seq la8 (.seq (.for1 8 .val (.cons (.loc 7) .nil) deB) Gr)))))))))
section
variable {n:Nat}{h h' h1 h2:HP}{i d k r s q:Nat}{w c:Int}{H:Nat}{K ns:List Int}{l:LOC}{cl:CallO}{t1 t2 t3 t4 t5 t6 t7 t8 t9 t10 t11 t12:Option AV}
noncomputable abbrev l13 (t1 t2 t3 t4 t5 t6 t7 t8 t9 t10 t11 t12:Option AV):LOC:=[some (.ref 0),t1,t2,t3,t4,t5,t6,t7,t8,t9,t10,t11,t12]
theorem lg {m:Nat}(h0:h[0]?=some (.const (ns.map .int))) (l0:l[0]?=some (some (.ref 0))):ev G (ae G W (n+1)) (cel m) l h=.ok (.int (cellOf ns m)) h:=ax (ag (aa l0) (ag ai aj)) (Mc g.cell h0)
set_option tactic.hygienic true in
theorem K8 {a ie e:CE}{v:AV}{j:Int}(he:ev G cl e l h=.ok v h1) (ha:ev G cl a l h1=.ok (.ref q) h1) (hi:ev G cl ie l h1=.ok (.int j) h1) (hs:iy (.ref q) (.int j) v h1=.ok () h2):exec G cl W (.setItem a ie e) l h=.next l h2:=by
 show(ev G cl e l h).thn l _=_
 rw [he]
 show(ev G cl a l h1).thn l _=_
 rw [ha]
 show(ev G cl ie l h1).thn l _=_
 rw [hi]
 show(iy (.ref q) (.int j) v h1).thn l _=_
 rw [hs]; rfl
set_option tactic.hygienic true in
theorem N8 {rk:List Int}(z:Zz w H W) (L:La h i d k w H K) (few:K.length≤40) (h0:h[0]?=some (.const (ns.map .int))) (hr:h[r]?=some (.dict rk)) (pm:rk.Perm K) :
  ∃ h',exec G (ae G W 9) W Gr (l13 (some (.int w)) (some (.int (H:Nat))) (some (.int (w^H))) t4 (some (.ref i)) (some (.ref r)) t7 t8 t9 t10 t11 t12) h=.ret (.bool true) h'∧h'[0]?=some (.const (ns.map .int)):=by
 have bd:=pk z.w2 z.w9 z.h12
 have e1:=Ip hr (by rw [pm.length_eq]; exact Oz.o913 few)
 rw [ur pm L.kp.srt] at e1
 refine Oz.z fun ζ η=>?_
 obtain⟨h1,hh1⟩:∃ h1:HP,h1=h++[.list (K.map .int)]:=⟨_,rfl⟩
 rw [← hh1] at e1
 have y1:Ex [] h h1:=hh1 ▸ Ex.app
 have q1:h1[h.length]?=some (.list (K.map .int)):=by rw [hh1]; exact ak
 have z1:=y1.get h0 Oz.g0
 obtain⟨v,v0,v1,nv⟩:=Ae (G:=G) (W:=W) (f:=26) (c:=(cellOf ns 0).fdiv 8) (m:=w^H) g.num bd.1 bd.2
 obtain⟨s0,hs0⟩:∃ s0,s0=(cellOf ns 1).fdiv 12+cellOf ns 2:=⟨_,rfl⟩
 obtain⟨h2,hh2⟩:∃ h2:HP,h2=h1++[.list [.int s0,.int 0,.int v]]:=⟨_,rfl⟩
 have y2:Ex [] h1 h2:=hh2 ▸ Ex.app
 have q2:h2[h1.length]?=some (.list [.int s0,.int 0,.int v]):=by rw [hh2]; exact ak
 have z2:=y2.get z1 Oz.g0
 have lk:=au L.list
 have ld:=au L.flds
 have l1:=au q1
 have l2:=au q2
 have e2:ev G (ae G W 9) (.list (.cons (.bin .add (.bin .fdiv (cel 1) (.int 12)) (cel 2)) (.cons (.int 0) (.cons (.loc 9) .nil)))) (l13 (some (.int w)) (some (.int (H:Nat))) (some (.int (w^H))) t4 (some (.ref i)) (some (.ref h.length)) t7 t8 (some (.int v)) t10 t11 t12) h1=.ok (.ref h1.length) h2:=by
  rw [hh2,hs0]
  exact b3 (ag (aq (aq (lg (n:=8) (m:=1) z1 rfl) ai (et (by decide))) (lg (n:=8) (m:=2) z1 rfl) b8) (ag ai (es1 rfl))) rfl
 have q12:=y2.get q1 Oz.g0
 obtain⟨_,em⟩:=qv (cl:=ae G W 9) (l:=l13 (some (.int w)) (some (.int (H:Nat))) (some (.int (w^H))) t4 (some (.ref i)) (some (.ref h.length)) t7 t8 (some (.int v)) (some (.ref h1.length)) t11 t12) (a:=6) q12 rfl
 have y3:Ex [] h2 (h2++[.list []]):=Ex.app
 have sp:Oz.E2 fun s1 h3=>exec G (ae G W 9) W Mt (l13 (some (.int w)) (some (.int (H:Nat))) (some (.int (w^H))) t4 (some (.ref i)) (some (.ref h.length)) t7 t8 (some (.int v)) (some (.ref h1.length)) t11 t12) h2=.next (l13 (some (.int w)) (some (.int (H:Nat))) (some (.int (w^H))) t4 (some (.ref i)) (some (.ref h.length)) t7 t8 (some (.int v)) (some (.ref h1.length)) t11 t12) h3∧Ex [] h1 h3∧Spo h3 h1.length w H s0 s1 v:=by
  by_cases hK:K=[]
  ·subst hK
   refine⟨0,_,ap em ah,y2.trans y3,y3.get q2 Oz.g0,fun x hx=>?_⟩
   simp only [Oz.g6,Oz.g0,or_false] at hx
   rcases hx with rfl | rfl
   ·exact⟨Int.le_refl _,Int.lt_of_lt_of_le (by decide) bd.1⟩
   ·exact Oz.o966 v0 v1
  ·rw [isE hK] at em
   obtain⟨N,hN,eN⟩:=Bf (cl:=ae G W 9) (l:=l13 (some (.int w)) (some (.int (H:Nat))) (some (.int (w^H))) t4 (some (.ref i)) (some (.ref h.length)) t7 t8 (some (.int v)) (some (.ref h1.length)) t11 t12) (a:=6) (e:=.bin .fdiv (cel 2) (.int 5)) (y3.get q12 Oz.g0) rfl (aq (lg (n:=8) (m:=2) (y3.get z2 Oz.g0) rfl) ai (et (by decide))) hK L.few
   have q3:=y3.get q2 Oz.g0
   have hs:iy (.ref h1.length) (.int 1) (.int N) (h2++[AO.list []])=.ok () ((h2++[AO.list []]).set h1.length (AO.list [.int s0,.int N,.int v])):=by
    show((h2++[AO.list []])[h1.length]?).elim .err (Hf h1.length 1 (.int N) (h2++[.list []]))=_
    rw [q3]; rfl
   have lt3:=au q3
   refine⟨N,_,be em (af (K8 eN (aa rfl) ai hs) ah),⟨⟨by rw [List.length_set]; exact(y2.trans y3).len,fun j hj ζ=>?_⟩,fun a vs e=>?_⟩,⟨List.getElem?_set_self lt3,fun x hx=>?_⟩⟩
   ·rw [Oz.g21 (by exact Oz.o173 hj)]
    exact(y2.trans y3).keep j hj Oz.g0
   ·rw [Oz.g21 (by have:=au e; exact Oz.o173 this)]
    exact(y2.trans y3).tup a vs e
   ·simp only [Oz.g6,Oz.g0,or_false] at hx
    rcases hx with rfl | rfl
    ·exact L.kp.rng _ hN
    ·exact Oz.o966 v0 v1
 obtain⟨s1,h3,e3',y13,p3⟩:=sp
 have y03:=y1.trans y13
 have L3:=L.ex0 y03
 have r3:=y13.get q1 Oz.g0
 have z3:=y13.get z1 Oz.g0
 obtain⟨q4,h4,e4',y4,st4⟩:=j8 (n:=3) (l:=l13 (some (.int w)) (some (.int (H:Nat))) (some (.int (w^H))) t4 (some (.ref i)) (some (.ref h.length)) t7 t8 (some (.int v)) (some (.ref h1.length)) t11 t12) (a:=5) (b:=10) z L3 p3 rfl rfl
 obtain⟨i5,d5,k5,h5,e5',M5,y5,_,_⟩:=ig (n:=5) z (y4.get r3 Oz.g0) L.kp L.few
 obtain⟨q6,h6,e6,y6,st6⟩:=vp (n:=3) z M5 ((p3.ex0 y4).ex0 y5).at_ p3.rg
 have y46:=y5.trans y6
 have ne:=zg (st4.then0 (Oz.g3 _) y46) st6.now
 have y36:=y4.trans y46
 have L6:=L3.ex0 y36
 have z6:=y36.get z3 Oz.g0
 obtain⟨f,hf⟩:∃ f:Int,f=(cellOf ns 2).fmod ((10:Nat)^15:Int):=⟨_,rfl⟩
 have f0:0≤f:=by rw [hf]; exact(fm _ _ (by decide)).1
 have e11:∀ t11:Option AV,ev G (ae G W 9) (.bin .mod (cel 2) (.pow 10 15)) (l13 (some (.int w)) (some (.int (H:Nat))) (some (.int (w^H))) t4 (some (.ref i)) (some (.ref h.length)) t7 t8 (some (.int v)) (some (.ref h1.length)) t11 t12) h6=.ok (.int f) h6:=fun t11=>by
  rw [hf]; exact aq (lg (n:=8) (m:=2) z6 rfl) rfl (fy (by decide))
 obtain⟨h7,e7',y7⟩:=Cc (n:=7) (c := -1 - f) L6 (.inl (by exact Oz.o355 f0))
 have L7:=L6.ex0 y7
 obtain⟨h8,e8',y8⟩:=Cc (n:=7) (c:=w^H+1+f) L7 (.inr (by exact Oz.o356 f0))
 have y68:=y7.trans y8
 have z8:=y68.get z6 Oz.g0
 have dm:gi (w^H+1)=true:=decide_eq_true ⟨by exact Oz.o360 bd.1,by exact Oz.o361 bd.1 bd.2⟩
 obtain⟨a,a0,a1,na⟩:=yf (G:=G) (W:=W) (f:=26) (c:=cellOf ns 2) (m:=w^H+1) g.num (by exact Oz.o764 bd.1) dm
 have r8:=(y36.trans y68).get r3 Oz.g0
 have L8:=L6.ex0 y68
 have p8:=p3.ex0 (y36.trans y68)
 obtain⟨_,e9⟩:=qv (cl:=ae G W 9) (l:=l13 (some (.int w)) (some (.int (H:Nat))) (some (.int (w^H))) t4 (some (.ref i)) (some (.ref h.length)) t7 t8 (some (.int v)) (some (.ref h1.length)) (some (.int f)) (some (.int a))) (a:=6) r8 rfl
 have y9:Ex [] h8 (h8++[.list []]):=Ex.app
 have tf:=az (G:=G) (cl:=ae G W 9) (h:=h8) (l:=l13 (some (.int w)) (some (.int (H:Nat))) (some (.int (w^H))) t4 (some (.ref i)) (some (.ref h.length)) t7 t8 (some (.int v)) (some (.ref h1.length)) (some (.int f)) (some (.int a))) (a:=.bin .mod (.loc 11) (.int 3)) (b:=.int 1) (aq (aa rfl) ai (fy (by decide))) ai oj
 have at_:Oz.E2 fun c h9=>exec G (ae G W 9) W Ms (l13 (some (.int w)) (some (.int (H:Nat))) (some (.int (w^H))) t4 (some (.ref i)) (some (.ref h.length)) t7 t8 (some (.int v)) (some (.ref h1.length)) (some (.int f)) (some (.int a))) h8=.next (l13 (some (.int w)) (some (.int (H:Nat))) (some (.int (w^H))) t4 (some (.ref i)) (some (.ref h.length)) t7 t8 (some (.int v)) (some (.ref h1.length)) (some (.int f)) (some (.int c))) h9∧Ex [] h8 h9∧0≤c∧c≤w^H:=by
  by_cases c1:f.fmod 3=1
  ·rw [decide_eq_true c1] at tf
   by_cases hK:K=[]
   ·subst hK
    exact⟨a,_,ap (b5 tf e9) ah,y9,a0,by exact Oz.o359 a1⟩
   ·rw [isE hK] at e9
    obtain⟨N,hN,eN⟩:=Bf (cl:=ae G W 9) (l:=l13 (some (.int w)) (some (.int (H:Nat))) (some (.int (w^H))) t4 (some (.ref i)) (some (.ref h.length)) t7 t8 (some (.int v)) (some (.ref h1.length)) (some (.int f)) (some (.int a))) (a:=6) (e:=.bin .fdiv (.loc 11) (.int 3)) (y9.get r8 Oz.g0) rfl (aq (aa rfl) ai (et (by decide))) hK L.few
    obtain⟨n0,n1⟩:=L.kp.rng N hN
    exact⟨N,_,be (b5 tf e9) (af (am eN) ah),y9,n0,by exact Oz.o50 n1⟩
  ·rw [decide_eq_false c1] at tf
   exact⟨a,_,ap (ij tf) ah,Ex.refl,a0,by exact Oz.o359 a1⟩
 obtain⟨c,h9,e9',y89,c0,c1⟩:=at_
 obtain⟨h10,e10,f10⟩:=Ly (n:=0) z (L8.ex0 y89) few (y89.get r8 Oz.g0) (by exact Oz.o173 lk) (p8.ex0 y89) (by exact Oz.o967 lk l1) c0 c1
 refine η ?_
 refine⟨h10,?_,f10 _ (y89.get z8 Oz.g0)⟩
 exact af (am (b7 (aa rfl) e1)) (af (am (ax (ag (aq (lg (n:=8) (m:=0) z1 rfl) ai (et (by decide))) (es1 rfl)) (nv 8 h1))) (af (am e2) (af e3' (af (ap (az e4' (ax (ag (ax (ag (aa rfl) (es2 rfl rfl)) e5') (es1 rfl)) e6) ne) ah)
  (af (am (e11 _)) (af (ap (eu (dw (ax (ag (aa rfl) (ag (aq (Du ai) (aa rfl) fj) aj)) e7')) (dw (ax (ag (aa rfl) (ag (aq (aq (aa rfl) ai b8) (aa rfl) b8) aj)) e8'))) ah)
  (af (am (ax (ag (lg (n:=8) (m:=2) z8 rfl) (ag (aq (aa rfl) ai b8) aj)) (na 8 h8))) (af e9' (av (bi (ax (ag (aa rfl) (ag (aa rfl) (es2 rfl rfl))) e10)))))))))))
end
end N14
end Sk
set_option autoImplicit false
namespace Sk
namespace N14
section
variable {n:Nat}{h h' h1 h2:HP}{i d k r s q:Nat}{w c:Int}{H:Nat}{K ns:List Int}{l:LOC}{cl:CallO}{t1 t2 t3 t4 t5 t6 t7 t8 t9 t10 t11 t12:Option AV}
set_option tactic.hygienic true in
theorem N1 (w2:2≤w) (w9:w≤9):∃ t,du Option.none (fun v ζ l' h'=>exec G cl W Hk (l'.set 4 (some v)) h') ((List.range H).map fun(k:Nat)=>AV.int (k:Int)) 0 (l13 (some (.int w)) t2 (some (.int 1)) Option.none t5 t6 t7 t8 t9 t10 t11 t12) h=.next (l13 (some (.int w)) t2 (some (.int (w^H))) t t5 t6 t7 t8 t9 t10 t11 t12) h:=by
 have loop:=di (g:=Option.none) (step:=fun v ζ l' h'=>exec G cl W Hk (l'.set 4 (some v)) h')
  (fun j l' h'=>∃ t,l'=l13 (some (.int w)) t2 (some (.int (w^j))) t t5 t6 t7 t8 t9 t10 t11 t12∧h'=h) ((List.range H).map fun(k:Nat)=>AV.int (k:Int)) 0
  (l13 (some (.int w)) t2 (some (.int 1)) Option.none t5 t6 t7 t8 t9 t10 t11 t12) h ⟨Option.none,by rw [Int.pow_zero],rfl⟩ (fun j v l' h' hj hI=>by
   obtain⟨t,hl,hh⟩:=hI
   subst hl; subst hh
   refine⟨rfl,_,_,af (am (aq (aa rfl) (aa rfl) (lj (decide_eq_true (.inr (by exact Oz.o334 w2 w9)))))) ah,some v,?_,rfl⟩
   rw [Int.pow_succ]; rfl) (fun ζ ζ ζ=>rfl)
 refine Oz.z fun ζ η=>?_
 obtain⟨l',h',e,t,rfl,rfl⟩:=loop
 refine η ?_
 rw [Nat.zero_add,Oz.g13,List.length_range] at e
 exact⟨t,e⟩
theorem Fj (h0:h[0]?=some (.const (ns.map .int))) (hn:ns.length≤63) :
  Oz.E3 fun(q:Nat) (cs:List Int) (h' : HP)=>(∀ {rest:CS}{rr:RS},exec G (ae G W 9) W rest (l13 t1 t2 t3 t4 t5 t6 (some (.ref q)) t8 t9 t10 t11 t12) h'=rr→exec G (ae G W 9) W (.seq (.asg 7 (.slice (.loc 0) (.int 3) (.int 18) 0)) (.seq la8 rest)) (l13 t1 t2 t3 t4 t5 t6 t7 t8 t9 t10 t11 t12) h=rr)∧h'[q]?=some (.list (cs.map .int))∧cs.length≤24∧h.length≤q∧Ex [] h h' := by
 have so:=iw (st:=0) (lo:=.int 3) (hi:=.int 18) rfl rfl (.inr h0) (by exact Oz.o953 hn)
 obtain⟨h1,hh1⟩:∃ h1:HP,h1=h++[.list ((sl ns (some 3) (some 18) 0).map .int)]:=⟨_,rfl⟩
 rw [← hh1] at so
 have y1:Ex [] h h1:=hh1 ▸ Ex.app
 have q1:h1[h.length]?=some (.list ((sl ns (some 3) (some 18) 0).map .int)):=by rw [hh1]; exact ak
 have z1:=y1.get h0 Oz.g0
 have t:=az (G:=G) (cl:=ae G W 9) (h:=h1) (l:=l13 t1 t2 t3 t4 t5 t6 (some (.ref h.length)) t8 t9 t10 t11 t12) (a:=.bin .mod (cel 2) (.int 8)) (b:=.int 3) (aq (lg (n:=8) (m:=2) z1 rfl) ai (fy (by decide))) ai oj
 have lm:(sl ns (some 3) (some 18) 0).length≤15:=Lk (L:=ns) 3 18
 have i24:bp .range1 [.int 24] h1=some ((List.range 24).map fun(j:Nat)=>AV.int (j:Int),Option.none):=rfl
 by_cases c:(cellOf ns 2).fmod 8=3
 ·rw [decide_eq_true c] at t
  refine Oz.z fun ζ η=>?_
  obtain⟨q,xs,h2,e2,y2,hq,g2,r2,_⟩:=jv (α:=Nat) (lo:=0) (g:=Option.none) (G:=G) (cl:=ae G W 9) (h:=h1) (l:=l13 t1 t2 t3 t4 t5 t6 (some (.ref h.length)) t8 t9 t10 t11 t12) (elt:=Mr) (cond:=.bool true) (ik:=.range1) (e:=fun j=>AV.int (j:Int)) (p:=fun ζ=>true) (V:=fun j=>One (.int (3*(4*(cellOf ns 1+17*(j:Int)*j)+3)))) (L:=List.range 24)
   (ag (a:=.int 24) ai aj) Ex.refl i24 (by simp) (Nat.zero_le _) (fun ζ ζ=>rfl)
   (fun j hj h' y=>⟨h',jc,Ex.refl,fun ζ=>⟨_,h',aq ai (aq (aq ai (aq (lg (n:=8) (m:=1) (y.get z1 Oz.g0) rfl) (aq (aq ai (aa rfl) (lj (decide_eq_true (.inl (by decide))))) (aa rfl) (lj (decide_eq_true (.inr (by have:=List.mem_range.mp hj; exact Oz.o954 this))))) b8) (lj (decide_eq_true (.inl (by decide))))) ai b8) (lj (decide_eq_true (.inl (by decide)))),Ex.refl,cy⟩⟩)
  refine η ?_
  rw [List.filter_eq_self.mpr (fun ζ ζ=>rfl)] at r2
  have hx:=pi r2
  rw [hx] at g2
  refine⟨q,(List.range 24).map fun(j:Nat)=>3*(4*(cellOf ns 1+17*(j:Int)*j)+3),h2,fun e=>af (am (iq (aa rfl) ai ai so)) (af (be t (af (am e2) ah)) e),?_,by simp,by have:=y1.len; exact Oz.o686 hq this,y1.trans y2⟩
  rw [List.map_map]; exact g2
 ·rw [decide_eq_false c] at t
  exact⟨_,_,h1,fun e=>af (am (iq (aa rfl) ai ai so)) (af (ap t ah) e),q1,by exact Oz.o955 lm,Oz.g3 _,y1⟩
set_option tactic.hygienic true in
theorem Fi {cs:List Int}(z:Zz w H W) (L:La h i d k w H []) (hr:h[r]?=some (.dict [])) (hq:h[q]?=some (.list (cs.map .int))) (lc:cs.length≤24) (qk:q≠k) :
  Oz.E4 fun(K rk:List Int) (t:Option AV) (h' : HP)=>du (some (q,.list (cs.map .int))) (fun v ζ l' h'=>exec G (ae G W 9) W deB (l'.set 8 (some v)) h') (cs.map .int) 0 (l13 t1 t2 (some (.int (w^H))) t4 (some (.ref i)) (some (.ref r)) (some (.ref q)) Option.none t9 t10 t11 t12) h=.next (l13 t1 t2 (some (.int (w^H))) t4 (some (.ref i)) (some (.ref r)) (some (.ref q)) t t9 t10 t11 t12) h'∧La h' i d k w H K∧K.length≤24∧h'[r]?=some (.dict rk)∧rk.Perm K∧Ext [d,k,r] h h' := by
 have big:=z.big
 have qd:q≠d:=fun e=>by have:=L.flds; rw [← e,hq] at this; cases this
 have qr:q≠r:=fun e=>by rw [e,hr] at hq; cases hq
 have loop:=di (g:=some (q,.list (cs.map .int))) (step:=fun v ζ l' h'=>exec G (ae G W 9) W deB (l'.set 8 (some v)) h')
  (fun j l' h'=>Oz.E3 fun K rk t=>l'=l13 t1 t2 (some (.int (w^H))) t4 (some (.ref i)) (some (.ref r)) (some (.ref q)) t t9 t10 t11 t12∧La h' i d k w H K∧K.length≤j∧h'[r]?=some (.dict rk)∧rk.Perm K∧Ext [d,k,r] h h') (cs.map .int) 0 (l13 t1 t2 (some (.int (w^H))) t4 (some (.ref i)) (some (.ref r)) (some (.ref q)) Option.none t9 t10 t11 t12) h
  ⟨[],[],_,rfl,L,Oz.g3 _,hr,.refl _,Ext.refl⟩
  (fun j v l' h' hj hI=>by
   rw [Nat.zero_add] at hI ⊢
   refine Oz.z fun ζ η=>?_
   obtain⟨K,rk,t,rfl,L',hl,hr',pm,ex⟩:=hI
   rw [Oz.g12] at hj
   obtain⟨c,hc,rfl⟩:=Oz.g11.mp hj
   have lt:=(Oz.g4.mp hc).1
   obtain⟨K2,rk2,h2,e2,L2,s2,g2,l2,r2,pm2,x2⟩:=J5 (n:=5) (c:=c) g.toLG g.put g.take g.m6 g.m7 g.num g.deed L'.toLad (L'.ok z) (by exact Oz.o956 lc big hl lt) hr' pm
   refine η ?_
   exact⟨b4 (ex.get hq (by simp [qd,qk,qr])),_,h2,af (ca (ax (ag (aa rfl) (ag (aa rfl) (es2 rfl rfl))) e2)) ah,K2,rk2,_,rfl,⟨L2,⟨s2,g2⟩,by exact Oz.o957 lc hl lt l2⟩,by exact Oz.o958 hl l2,r2,pm2,ex.trans x2⟩)
  (fun l' h' hI=>by
   refine Oz.z fun ζ1 η1=>?_
   obtain⟨_,_,_,_,_,_,_,_,ex⟩:=hI
   refine η1 ?_
   exact b4 (ex.get hq (by simp [qd,qk,qr])))
 refine Oz.z fun ζ2 η2=>?_
 obtain⟨l',h',e,K,rk,t,rfl,L',hl,hr',pm,ex⟩:=loop
 refine η2 ?_
 rw [Nat.zero_add,Oz.g13] at hl
 exact⟨K,rk,t,h',e,L',by exact Oz.o959 lc hl,hr',pm,ex⟩
theorem law_top (hW:250≤W) (hn:ns.length≤63):∃ h',exec G (ae G W 9) W c_law (l13 Option.none Option.none Option.none Option.none Option.none Option.none Option.none Option.none Option.none Option.none Option.none Option.none) [.const (ns.map .int)]=.ret (.bool true) h'∧h'[0]?=some (.const (ns.map .int)):=by
 obtain⟨w,hw'⟩:∃ w:Int,w=2+(cellOf ns 0).fmod 8:=⟨_,rfl⟩
 have f1:=fm (cellOf ns 0) 8 (by decide)
 have f2:=fm (cellOf ns 1) 12 (by decide)
 obtain⟨H,hH'⟩:∃ H:Nat,(H:Int)=1+(cellOf ns 1).fmod 12:=⟨(1+(cellOf ns 1).fmod 12).toNat,by exact Oz.o282 f2.1⟩
 have z:Zz w H W:=⟨by exact Oz.o283 hw' f1.1,by exact Oz.o284 hw' f1.2,by exact Oz.o960 f2.1 hH',by exact Oz.o961 f2.2 hH',hW⟩
 obtain⟨h0,hh0⟩:∃ h0:HP,h0=[.const (ns.map .int)]:=⟨_,rfl⟩
 rw [← hh0]
 have z0:h0[0]?=some (.const (ns.map .int)):=by rw [hh0]; rfl
 have e1:ev G (ae G W 9) (.bin .add (.int 2) (.bin .mod (cel 0) (.int 8))) (l13 Option.none Option.none Option.none Option.none Option.none Option.none Option.none Option.none Option.none Option.none Option.none Option.none) h0=.ok (.int w) h0:=by
  rw [hw']; exact aq ai (aq (lg (n:=8) (m:=0) z0 rfl) ai (fy (by decide))) b8
 have e2:ev G (ae G W 9) (.bin .add (.int 1) (.bin .mod (cel 1) (.int 12))) (l13 (some (.int w)) Option.none Option.none Option.none Option.none Option.none Option.none Option.none Option.none Option.none Option.none Option.none) h0=.ok (.int (H:Nat)) h0:=by
  rw [hH']; exact aq ai (aq (lg (n:=8) (m:=1) z0 rfl) ai (fy (by decide))) b8
 refine Oz.z fun ζ η=>?_
 obtain⟨t4,lp⟩:=N1 (cl:=ae G W 9) (h:=h0) (H:=H) (t2:=some (.int (H:Nat))) (t5:=Option.none) (t6:=Option.none) (t7:=Option.none) (t8:=Option.none) (t9:=Option.none) (t10:=Option.none) (t11:=Option.none) (t12:=Option.none) z.w2 z.w9
 have it:bp .range1 [.int (H:Nat)] h0=some ((List.range H).map fun(k:Nat)=>AV.int (k:Int),Option.none):=if_pos (by have:=z.h12; exact Oz.o788 f2.2 hH')
 obtain⟨h1,e3',L1,y1⟩:=n9 (h:=h0) (n:=7) (l:=l13 (some (.int w)) (some (.int (H:Nat))) (some (.int (w^H))) t4 Option.none Option.none Option.none Option.none Option.none Option.none Option.none Option.none) (ea:=.loc 1) (eb:=.loc 2) z (aa rfl) (aa rfl)
 have y2:Ex [] h1 (h1++[.dict []]):=Ex.app
 have L2:=L1.ex0 y2
 have y02:=y1.trans y2
 obtain⟨q,cs,h3,f3,q3,lc,lq,y3⟩:=Fj (t1:=some (.int w)) (t2:=some (.int (H:Nat))) (t3:=some (.int (w^H))) (t4:=t4) (t5:=some (.ref (h0.length+1))) (t6:=some (.ref h1.length)) (t7:=Option.none) (t8:=Option.none) (t9:=Option.none) (t10:=Option.none) (t11:=Option.none) (t12:=Option.none) (y02.get z0 Oz.g0) hn
 have L3:=L2.ex0 y3
 have d3:=y3.get (j:=h1.length) (o:=.dict []) ak Oz.g0
 have lk:=au L2.list
 obtain⟨K,rk,t8,h4,e4',L4,lK,r4,pm,x4⟩:=Fi (t1:=some (.int w)) (t2:=some (.int (H:Nat))) (t4:=t4) (t9:=Option.none) (t10:=Option.none) (t11:=Option.none) (t12:=Option.none) z L3 d3 q3 lc (by exact Oz.o962 lq lk)
 have z3:=(y02.trans y3).get z0 Oz.g0
 have l0:h0.length=1:=by rw [hh0]; rfl
 have l1:=y1.len
 obtain⟨h5,e5',z5⟩:=N8 (t4:=t4) (t7:=some (.ref q)) (t8:=t8) (t9:=Option.none) (t10:=Option.none) (t11:=Option.none) (t12:=Option.none) z L4 (by exact Oz.o963 lK) (x4.get z3 (by simp; exact Oz.o964 l0 l1)) r4 pm
 refine η ?_
 exact⟨h5,af (am e1) (af (am e2) (af (am ai) (af (ft (es1 rfl) it lp) (af (am e3') (af (am rfl) (f3 (af (ft (es1 rfl) (bw q3) e4') e5'))))))),z5⟩
end
end N14
end Sk
namespace L14
open Sk
noncomputable abbrev c_law:CS:=N14.c_law
noncomputable abbrev D:TxD:=N14.D
noncomputable def lawSlots:List PySem.Str:=["_law_script","_law_width","_law_high","_law_limit","_law_turn","_law_ladder","_law_row","_law_cells","_law_cell","_law_drawn","_law_spot","_law_far","_law_at"]
set_option tactic.hygienic true in
theorem plain (ns:List Int) (hn:ns.length≤63):aw ((⟨1,lawSlots.length,c_law⟩:Fn).run D.gl (ae D.gl 300 9) 300 [.ref 0] [.const (ns.map .int)]) (fun v h'=>v=.bool true∧∃ us,h'[0]?=some (.const us)) (fun ζ ζ=>False):=by
 obtain⟨h',e,h0⟩:=N14.law_top (ns:=ns) (by decide) hn
 unfold Fn.run
 rw [if_pos (show [AV.ref 0].length=1 from rfl)]
 show aw (match exec N14.G (ae N14.G N14.W 9) N14.W N14.c_law [some (.ref 0),Option.none,Option.none,Option.none,Option.none,Option.none,Option.none,Option.none,Option.none,Option.none,Option.none,Option.none,Option.none] [.const (ns.map .int)] with
  | .next _ h'=>.ok .none h'
  | .ret v h'=>.ok v h'
  | .exc c _ h'=>.exc c h'
  | .err=>.err) _ _
 rw [e]
 exact⟨rfl,_,h0⟩
end L14

open PySem PySem.W PyProof.Rows
set_option maxHeartbeats 8000000 in
theorem PySem.Challenge.cw_uf050019_14_holds : PySem.Challenge.rw_uf050019_14.Holds := by
  w_on
  refine holds_law L14.ws fun said => ?_
  refine holds_open (q := L14.q) (loose := []) (Xt := fun s => xlAt L14.q [] s && recOk (RowW.records (OpenRow.toRowW PySem.Challenge.rw_uf050019_14.row)) s) (XP := XL L14.q []) (Yf := Hook.obs L14.H) (Ya := Hook.val L14.H) (YP := Hook.says L14.H) (N := 6588) L14.left (Hook.of L14.H) (Hook.keeps L14.H) (fun s e => xl_of s (Bool.and_eq_true_iff.mp e).1) XL.keeps (by rfl) (by rfl) (by rfl) (fun s e => recFacts_of (Bool.and_eq_true_iff.mp e).2) (by rfl) said (by decide +kernel) ⟨rfl, rfl, rfl, rfl, rfl, by decide +kernel⟩ ?hw ?hc
  case hw => w_witness2
  clear said
  k_fill
  intro w s₀ s₁ mg mb G Y fa o pm cd doc dV kV ho hd hcd hD hmg hg args vals as hpre hlay hrd hwl hlo
  have KX := kIn_of Y
  refine Ground.open G ?_
  intro T B _ TE TW
  try (obtain ⟨_, _, he, B0⟩ := based_of_top T rfl hmg ho hd; have he' : cd = _ := he; subst he'; clear he)
  have sysm := (T.seer (by decide +kernel)).mods
  have dfl := (hD.pos.resolve_right (fun h => h.1 rfl)).2
  wrow_args hpre hlay hrd hwl hlo
  all_goals (
    first | refine callC_kw (enter_call ?_) | refine enter_call ?_ | refine callC_kw (enter_callW ?_) | refine enter_callW ?_
    w_top on
    refine codeAny_mono ?_ (fun _ _ g => GoodW.toG g))
  rename_i hL _ _ _ hI _ hc _
  have la : Sk.LawAt L14.D PySem.Challenge.rw_uf050019_14.row.prog w s₁ _ mg mb _ _ _ := ⟨KX, T.g, T.b, T.nolimit, T.builtins, sysm.imp fun _ h => h.1, hL, hI, by omega, by kernel_rfl⟩
  refine codeAny_mono (Sk.law_loud 300 9 L14.c_law L14.lawSlots la (by kernel_rfl) ho hd hcd rfl rfl rfl rfl dfl (by kernel_rfl) rfl rfl (by decide) (by decide) (L14.plain _ (by omega))) ?_
  exact (fun r s1 h => Sk.good_true hg (fun _ => rfl) (by first | (with_unfolding_all rfl) | kernel_rfl | decide +kernel) h)
