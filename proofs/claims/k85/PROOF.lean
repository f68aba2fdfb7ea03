import PyProof.Rows.All
import HandS.Head0
import HandS.Head1
import HandS.Head2
import HandS.Head3
import HandS.HeadEnd
import HandS.HeadHook4
import HandS.Words
import HandS.ForMost
import HandS.ForExc
import HandS.ExcInit
import HandS.Star
import HandS.TupAny
import HandS.TupMul
import HandS.Deep
import HandS.Walk
import HandS.Wide
import HandS.Lambda
import HandS.HeadHook1
import HandS.TupLe
import HandS.ForSpec
import HandS.Defaults
import HandS.Flow
import HandS.IsInst
import HandS.Zip
import HandS.Style
import HandS.Gcd
import HandS.SortOrd
import PyProof.ReprRoads
import HandS.NamedTupSort
import KE.LtData
import KE.KSortAsk
import HandS.Text
import HandS.ExcOwn
import HandS.More
import KE.GoesZip
import KE.GoesMore
import KE.KDictZip
import HandS.Keys
import HandS.ExcField
import HandS.HeadWalk
import HandS.MakeKwOnly
import PyProof.ReprLen
import PyProof.CallFns
import HandS.ExcIs
import HandS.TryOnly
import HandS.Replace
import HandS.StrMore
import PyProof.StrOps2
import HandS.ExcValue
import HandS.SetFor
import PySem.Challenge.RW_helpingmarks_k85_consoles_not_understood
set_option Elab.async false
set_option linter.all false
set_option maxRecDepth 100000
set_option maxHeartbeats 0
/-! a head's run in pieces: the states between are written out -/
noncomputable section
namespace HP
open PySem PySem.W PySem.Calls PyProof.Rows HandSHeadRun
section
variable (st : SharedT → Thread → Option (SharedT × Thread)) (n0 : Nat) (ann : Option Value)
/-- a piece, to its end -/
def segF : Nat → SharedT → Thread → Option (Flow × SharedT × Code × Pos)
  | 0, _, _ => none
  | n + 1, s, t => match endAt 1 t with
    | some f => some (f, s, t.code, t.pos)
    | none => match stepOk n0 ann t with
      | false => none
      | true => match st s t with
        | some (s', t') => frS s' fun s' => segF n s' t'
        | none => none
/-- so many steps -/
def preF : Nat → SharedT → Thread → Option (SharedT × Thread)
  | 0, s, t => some (s, t)
  | n + 1, s, t => match through t with
    | true => none
    | false => match stepOk n0 ann t with
      | false => none
      | true => match st s t with
        | some (s', t') => frS s' fun s' => preF n s' t'
        | none => none
end
theorem segF_ok {tb : String → Option Builtin} {p : Program} {w : World} {n0 : Nat} {ann : Option Value} : ∀ {n : Nat} {s s' : SharedT} {t : Thread} {f : Flow} {c : Code} {q : Pos}, segF (stepT (denote tb) p w) n0 ann n s t = some (f, s', c, q) → segRun tb p w n0 ann 1 n s.abs t = some (f, s'.abs, c, q)
  | 0, _, _, _, _, _, _, h => by cases h
  | n + 1, s, s', t, f, c, q, h => by
    unfold segF at h
    unfold segRun
    cases he : endAt 1 t with
    | some g =>
      rw [he] at h
      cases h
      rfl
    | none =>
      rw [he] at h
      cases hk : stepOk n0 ann t with
      | false => rw [hk] at h; cases h
      | true =>
        rw [hk] at h
        cases hs : stepT (denote tb) p w s t with
        | none => rw [hs] at h; cases h
        | some r =>
          obtain ⟨s2, t2⟩ := r
          rw [hs] at h
          have h3 : (frS s2 fun s' => segF (stepT (denote tb) p w) n0 ann n s' t2) = some (f, s', c, q) := h
          rw [frS_eq] at h3
          have z := segF_ok h3
          rw [stepT_spec hs]
          exact z
theorem preF_ok {tb : String → Option Builtin} {p : Program} {w : World} {n0 : Nat} {ann : Option Value} : ∀ {n : Nat} {s s' : SharedT} {t t' : Thread}, preF (stepT (denote tb) p w) n0 ann n s t = some (s', t') → topGo tb p w n0 ann n s.abs t = some (s'.abs, t')
  | 0, _, _, _, _, h => by cases h; rfl
  | n + 1, s, s', t, t', h => by
    unfold preF at h
    unfold topGo
    cases he : through t with
    | true => rw [he] at h; cases h
    | false =>
      rw [he] at h
      cases hk : stepOk n0 ann t with
      | false => rw [hk] at h; cases h
      | true =>
        rw [hk] at h
        cases hs : stepT (denote tb) p w s t with
        | none => rw [hs] at h; cases h
        | some r =>
          obtain ⟨s2, t2⟩ := r
          rw [hs] at h
          have h3 : (frS s2 fun s' => preF (stepT (denote tb) p w) n0 ann n s' t2) = some (s', t') := h
          rw [frS_eq] at h3
          have z := preF_ok h3
          rw [stepT_spec hs]
          exact z
/-- objects laid, written -/
def insAll : BT → List (Nat × Obj) → BT
  | t, [] => t
  | t, (a, o) :: r => insAll (t.ins a o) r
/-- the opening, to its end -/
def openF (st : Program → SharedT → Thread → Option (SharedT × Thread)) (fence : Program → Shared → Option Shared) (M : Nat) (p : Program) : Option Shared := match impF (st (opening p)) M (startT (opening p)) (start (opening p)).2 with
  | some s => fence p s.abs
  | none => none
theorem openF_ok {M : Nat} {p : Program} {w : World} {s : Shared} (h : openF (fun q => stepT (denote treeTable) q w) fenceModules? M p = some s) : fencedOpening treeTable p w M = some s := by
  unfold openF at h
  cases e1 : impF (stepT (denote treeTable) (opening p) w) M (startT (opening p)) (start (opening p)).2 with
  | none => rw [e1] at h; cases h
  | some x =>
    rw [e1] at h
    have a1 := impF_ok e1
    rw [startT_eq] at a1
    unfold fencedOpening
    rw [a1]
    exact h
theorem openF_eq (w : World) : openF (fun q => stepT (denote treeTable) q w) fenceModules? = openF (fun q => stepQ (denQ tabQ) q w) fenceQ := by
  rw [stepQ_eq, denQ_eq, tabQ_eq, fenceQ_eq]
theorem segF_eq (p : Program) (w : World) : segF (stepT (denote treeTable) p w) = segF (stepQ (denQ tabQ) p w) := by
  rw [stepQ_eq, denQ_eq, tabQ_eq]
theorem preF_eq (p : Program) (w : World) : preF (stepT (denote treeTable) p w) = preF (stepQ (denQ tabQ) p w) := by
  rw [stepQ_eq, denQ_eq, tabQ_eq]
theorem goF_eq (p : Program) (w : World) : goF (stepT (denote treeTable) p w) = goF (stepQ (denQ tabQ) p w) := by
  rw [stepQ_eq, denQ_eq, tabQ_eq]
/-- a state: its objects by the world, the rest written out -/
structure StT where
  T : World → BT
  n : Nat
  life : Life
  drawn : Drawn
  toks : Nat
abbrev StT.at (S : StT) (w : World) (os : OsState) : SharedT := ⟨S.T w, S.n, S.life, #[], S.drawn, S.toks, os⟩
abbrev StT.heap (S : StT) (w : World) : Heap := absHeap (S.T w) S.n S.life
section
variable {p : Program} {n0 : Nat} {ann : Option Value} {env : Env} {c : Code} {q : Pos}
/-- from S on, the statements l lead to S' -/
def Leads (p : Program) (n0 : Nat) (ann : Option Value) (env : Env) (c : Code) (q : Pos) (n : Nat) (S : StT) (x : Pos) (l : List Stmt) (S' : StT) (y : Pos) : Prop := ∀ (w : World) (os : OsState), segF (stepQ (denQ tabQ) p w) n0 ann n (S.at w os) (piecesOf l env c x [topFrame q]) = some (.next, S'.at w os, c, y)
/-- from S on, the rest of the text leads to its end -/
def Rest (p : Program) (n0 : Nat) (ann : Option Value) (env : Env) (c : Code) (q : Pos) (n : Nat) (S : StT) (x : Pos) (l : List Stmt) (S' : StT) : Prop := ∀ (w : World) (os : OsState), topRun treeTable p w n0 ann n (S.at w os).abs (restOf l env c x [topFrame q]) = some (S'.at w os).abs
theorem Rest.app {n m : Nat} {S S' S'' : StT} {x y : Pos} {l r : List Stmt} (h : Leads p n0 ann env c q n S x l S' y) (k : Rest p n0 ann env c q m S' y r S'') : Rest p n0 ann env c q (n + m) S x (l ++ r) S'' := fun w os => by
  have h1 := h w os
  rw [← segF_eq] at h1
  exact piece_app (segF_ok h1) (k w os)
theorem Rest.nil {n : Nat} {S S' : StT} {x : Pos} (h : ∀ (w : World) (os : OsState), goF (stepQ (denQ tabQ) p w) n0 ann n (S.at w os) ⟨doneF .next, c, x, [topFrame q]⟩ = some (S'.at w os)) : Rest p n0 ann env c q n S x [] S' := fun w os => by
  have h1 := h w os
  rw [← goF_eq] at h1
  exact piece_nil (goF_ok h1)
theorem Rest.cast {n : Nat} {S S' : StT} {x : Pos} {l r : List Stmt} (h : Rest p n0 ann env c q n S x l S') (e : r = l) : Rest p n0 ann env c q n S x r S' := e ▸ h
end
/-- the opening's objects, as a tree -/
def treeO (o : Option Shared) : BT := match o with
  | some s => (match putAll s.heap.objs.toList .nil 0 with
    | some r => r.1
    | none => .nil)
  | none => .nil
/-- what is asked of the opening's end -/
def asksO (o : Option Shared) : Option (Nat × Life × Array GenState × Drawn × Nat) := match o with
  | some s => (match putAll s.heap.objs.toList .nil 0 with
    | some r => frNat r.2 fun n => frNat s.toks fun k => some (n, s.heap.life, s.gens, s.drawn, k)
    | none => none)
  | none => none
theorem asksO_ok {o : Option Shared} {n k : Nat} {l : Life} {d : Drawn} (h : asksO o = some (n, l, #[], d, k)) : ∃ os, o = some ⟨absHeap (treeO o) n l, #[], d, k, os⟩ := by
  cases o with
  | none => cases h
  | some s =>
    unfold asksO at h
    unfold treeO
    cases e : putAll s.heap.objs.toList .nil 0 with
    | none => simp only [e] at h; cases h
    | some r =>
      obtain ⟨t, m⟩ := r
      simp only [e, frNat_eq, Option.some.injEq, Prod.mk.injEq] at h
      obtain ⟨rfl, rfl, h3, rfl, rfl⟩ := h
      have eh := putAll_heap e
      refine ⟨s.os, ?_⟩
      obtain ⟨hp, gs, d, k, os⟩ := s
      have e' : putAll hp.objs.toList .nil 0 = some (t, m) := e
      simp only at h3 eh
      simp only [e']
      rw [eh, h3]
/-- the whole of it -/
theorem left_of {p q : Program} {loose : List Str} {Xt : Shared → Bool} {α : Type} {Yf : Shared → α} {ob : SharedT → α} {Ya : World → α} {N : Nat} {S0 Sa Sb S1 : StT} {n0 : Nat} {ann : Option Value} {env : Env} {b : List Stmt} {x y z : Pos} {k kb m : Nat}
    (hT : ∀ w : World, S0.T w = treeO (openF (fun q => stepQ (denQ tabQ) q w) fenceQ N p)) (open_ : ∀ w : World, asksO (openF (fun q => stepQ (denQ tabQ) q w) fenceQ N p) = some (S0.n, S0.life, #[], S0.drawn, S0.toks))
    (size : ∀ w : World, ((S0.heap w).isNs mainGlobals && (#[] : Array GenState).size == 0, (S0.heap w).nsMap mainGlobals "__annotations__") = (true, ann)) (hn : S0.n = n0)
    (pre : ∀ (w : World) (os : OsState), preF (stepQ (denQ tabQ) p w) n0 ann k (S0.at w os) (topStub p) = some (Sa.at w os, ⟨denQ tabQ (.body b env), .body b env, x, [topFrame z]⟩))
    (blk : ∀ (w : World) (os : OsState), segF (stepQ (denQ tabQ) p w) n0 ann kb (Sa.at w os) (blockOf b env (.body b env) x [topFrame z]) = some (.next, Sb.at w os, .body b env, y))
    (rest : Rest p n0 ann env (.body b env) z m Sb y b S1) (le : Nat.ble (k + (kb + m)) N = true)
    (ho : ∀ s : SharedT, ob s = Yf s.abs) (looks : ∀ (w : World) (os : OsState), looksF p (S0.heap w) (S1.at w os).abs = true)
    (seen : ∀ (w : World) (os : OsState), seenQ q loose (importedModules p.main.body) Xt (S1.at w os).abs = openGood q loose) (obs : ∀ (w : World) (os : OsState), ob (S1.at w os) = Ya w) : LeftO p q loose Xt Yf Ya N true := fun w => by
  obtain ⟨os, eo⟩ := asksO_ok (open_ w)
  rw [← hT w] at eo
  have eo2 : openF (fun q => stepQ (denQ tabQ) q w) fenceQ N p = some (S0.at w os).abs := eo
  rw [← openF_eq] at eo2
  have e0 := openF_ok eo2
  have z1 := (Prod.mk.inj (size w)).1
  have z2 := (Prod.mk.inj (size w)).2
  have z3 : (S0.heap w).objs.size = n0 := (absHeap_size _ _ _).trans hn
  have e1 := pre w os
  rw [← preF_eq, ← denQ_eq, ← tabQ_eq] at e1
  have e2 := blk w os
  rw [← segF_eq] at e2
  have r := topRun_mono (N - (k + (kb + m))) _ _ _ _ (go_top (preF_ok e1) (piece_block (segF_ok e2) (rest w os)))
  rw [show k + (kb + m) + (N - (k + (kb + m))) = N by have := Nat.le_of_ble_eq_true le; omega] at r
  have t : topFrom treeTable p w N (S0.at w os).abs = some (S1.at w os).abs := by
    unfold topFrom
    show (match (S0.heap w).isNs mainGlobals && (#[] : Array GenState).size == 0 with | true => _ | false => _) = _
    rw [z1]
    show (topRun treeTable p w (S0.heap w).objs.size ((S0.heap w).nsMap mainGlobals "__annotations__") N (S0.at w os).abs (topStub p)).bind _ = _
    rw [z2, z3, r]
    have l := looks w os
    unfold looksF at l
    show (match staticsOk (importedModules p.main.body) (S0.heap w) (S1.at w os).abs.heap && namesBound p (S1.at w os).abs.heap && gensDone (S1.at w os).abs && laidKept (S0.heap w) (S1.at w os).abs.heap with | true => some (S1.at w os).abs | false => none) = _
    rw [l]
  have f2 := seen w os
  have f3 := obs w os
  rw [ho] at f3
  rw [← seenQ_eq] at f2
  unfold openEnds
  rw [e0]
  show (topFrom treeTable p w N (S0.at w os).abs).map _ = _
  rw [t]
  exact congrArg some (Prod.ext f2 f3)
/-- a law, its top's run in pieces -/
theorem head_left {r : OpenRow} {q : Program} {H : Hook} {M : Nat} {loose : List PySem.Str} {d : DefRec} {kwd : List (PySem.Str × PySem.Expr)} (left : LeftO r.prog q loose (fun s => xlAt q [] s && recOk r.toRowW.records s) H.obs H.val M true)
    (hdef : defOf q r.name = some (d, kwd)) (hp : r.prog.theDef r.name = some (d.params, d.body, d.scope)) (hk : kwWritten? d.params.kwonlyargs d.params.kw_defaults = some kwd) (hwr : (!r.writes || r.records.isEmpty) = true)
    (k1 : r.wellSaid = true) (ok : (chainsOk q && opensWell r.prog && (frees r.toRowW && r.within.isEmpty)) = true) (hb : r.prog.bare) (hw : r.toRowW.promised) (call : WalkO q loose (XL q []) H.says r.toRowW d kwd fun f vs => PySem.call f vs) : r.Holds :=
  holds_open (r := r) (q := q) (loose := loose) (XP := XL q []) (YP := H.says) (d := d) (kwd := kwd) left
    H.of H.keeps (fun s z => xl_of s (Bool.and_eq_true_iff.mp z).1) XL.keeps hdef hp hk
    (fun s z => recFacts_of (Bool.and_eq_true_iff.mp z).2) hwr k1 ok hb hw call
end HP
end

noncomputable section
namespace PM
open PySem PySem.W PySem.Calls PyProof.Rows HandSHeadRun HP L2
def hTp (i : Nat) : Stmt := PySem.Challenge.pw_helpingmarks_k85_consoles_not_understood.main.body.getD i (.Pass ⟨0, 0, 0, 0⟩)
def hMm (s : Stmt) (j : Nat) : Stmt := match s with
  | .ClassDef _ _ _ b _ _ _ _ _ _ _ => b.getD j (.Pass ⟨0, 0, 0, 0⟩)
  | _ => .Pass ⟨0, 0, 0, 0⟩
def hDs (P : Params) (k : Str) (t : Nat) (v : Value) : DictEntry := ⟨if k.cps.isEmpty then 0 else reduceHash (P.strHash k.cps), .str k t, v⟩
def hOb (c : Value) (d : Data) : Obj := { cls := c, data := d }
def hFd (name qual : Str) (s : Stmt) (g : Nat) (dv kv doc pm : Value) (an : Option Addr) (cd ct : Value) (bi : Nat) : Data := .func ⟨name, qual, defArgs s, .stmts (defBody s), defScope s, g, [], dv, kv, doc, pm, an, cd, ct, bi⟩
abbrev RL : OpenRow := OpenLaw.row PySem.Challenge.rw_helpingmarks_k85_consoles_not_understood
abbrev qL : Program := view RL.prog [0, 88]
def nsL0 : List PySem.Str := ["MarkError", "InvalidNumber", "InvalidLine", "NotATally", "InvalidDeed", "Barred", "NothingToUndo", "FIGURES", "is_whole", "is_between", "is_string", "is_made_of", "is_tuple_of", "words_of", "number_in", "ONE", "lowest", "less_by", "times", "MOST_MARKS"]
def nsL1 : List PySem.Str := ["MOST_NUMBER", "LENGTHS", "is_marks", "check_marks", "is_mark", "is_row", "rows_by", "index_of", "join_of", "meet_of", "with_changed", "lots_by", "is_rising_by", "rising_by", "marks_of", "total_by", "number_at", "share_by", "bar_by", "helps_by"]
def nsL2 : List PySem.Str := ["is_right_pair", "wrong_by", "is_even_by", "chances_by", "made_share", "is_made_at", "unmade_by", "are_alone_by", "SIGNS", "row_in", "SIZES", "FULL", "NONE_tallies", "LAST", "HINDERS", "has_form", "check_deed", "with_more", "reason_against", "Tally"]
def nsL3 : List PySem.Str := ["check_tally", "copy_of", "LOST", "DONE", "NONE_consoles", "NOTHING", "YES", "NO", "said_of_deed", "said_of_undo", "said_of_chance", "said_of_two", "said_of_word", "Console", "_law_pool", "_law_take", "_law_of", "_law_refusal", "_law_right"]
def nsL : List PySem.Str := nsL0 ++ nsL1 ++ nsL2 ++ nsL3
def sL0 : StT := ⟨fun w => treeO (openF (fun q => stepQ (denQ tabQ) q w) fenceQ 60000 RL.prog), 39, {}, {}, 370⟩
def oLa_0 (P : Params) : List (Nat × Obj) := [
  (39, hOb (.type "tuple") (.seq #[] 0)),
  (40, hOb (.none) (.fields #[])),
  (41, hOb (.type "code") (.fields #[.str "<module>" 371, .str "<module>" 372, .str "/claim/cut.py" 373, .int 1 0, .int 0 0, .int 0 0, .int 0 0, .int 0 0, .ref 39, .bool false, .int 370 0, .ref 40, .none, .none, .none, .none, .int 374 0, .int 1 0, .str "/claim/cut.py" 375])),
  (42, ⟨.type "frame", none, .plain, #[some (.ref 41), some (.ref 3), some (.ref 3), none, some (.str "__main__" 164), none, some (.ref 0)]⟩)]
def sLa : StT := ⟨fun w => (insAll (sL0.T w) (oLa_0 w.params)), 43, {}, {}, 376⟩
def oL40_0 (P : Params) : List (Nat × Obj) := [
  (3, hOb (.type "dict") (.dict #[hDs P "__name__" 165 (.str "helpingmarks.rows" 623), hDs P "__doc__" 166 (.none), hDs P "__package__" 167 (.none), hDs P "__loader__" 168 (.builtin "__main__.__loader__#opaque"), hDs P "__spec__" 169 (.none), hDs P "__annotations__" 170 (.ref 6), hDs P "__builtins__" 171 (.ref 4), hDs P "__file__" 173 (.str "/claim/cut.py" 172), hDs P "__cached__" 174 (.none), hDs P "gcd" 369 (.builtin "math.gcd"), hDs P "MarkError" 395 (.ref 52), hDs P "InvalidNumber" 420 (.ref 72), hDs P "InvalidLine" 445 (.ref 91), hDs P "NotATally" 470 (.ref 110), hDs P "InvalidDeed" 495 (.ref 129), hDs P "Barred" 520 (.ref 148), hDs P "NothingToUndo" 536 (.ref 160), hDs P "FIGURES" 540 (.str "0123456789" 539), hDs P "is_whole" 547 (.ref 169), hDs P "is_between" 556 (.ref 176), hDs P "is_string" 563 (.ref 183), hDs P "is_made_of" 569 (.ref 188), hDs P "is_tuple_of" 577 (.ref 195), hDs P "words_of" 585 (.ref 202), hDs P "number_in" 594 (.ref 209), hDs P "ONE" 597 (.ref 210), hDs P "lowest" 606 (.ref 217), hDs P "less_by" 614 (.ref 224), hDs P "times" 622 (.ref 231), hDs P "MOST_MARKS" 626 (.int 3 625), hDs P "MOST_NUMBER" 628 (.int 99 627), hDs P "LENGTHS" 638 (.ref 232), hDs P "is_marks" 645 (.ref 239), hDs P "check_marks" 652 (.ref 246), hDs P "is_mark" 660 (.ref 253), hDs P "is_row" 666 (.ref 258), hDs P "rows_by" 672 (.ref 263), hDs P "index_of" 681 (.ref 270), hDs P "join_of" 687 (.ref 275), hDs P "meet_of" 693 (.ref 280), hDs P "with_changed" 701 (.ref 287), hDs P "lots_by" 707 (.ref 292), hDs P "is_rising_by" 717 (.ref 299), hDs P "rising_by" 723 (.ref 304), hDs P "marks_of" 730 (.ref 311), hDs P "total_by" 737 (.ref 318), hDs P "number_at" 745 (.ref 325)] 47)),
  (40, hOb (.none) (.fields #[.int 3 0, .int 0 0, .ref 48, .int 5 0, .int 0 0, .ref 61, .int 9 0, .int 0 0, .ref 80, .int 13 0, .int 0 0, .ref 99, .int 17 0, .int 0 0, .ref 118, .int 21 0, .int 0 0, .ref 137, .int 25 0, .int 0 0, .ref 156, .int 29 0, .int 0 0, .ref 168, .int 31 0, .int 0 0, .ref 175, .int 33 0, .int 0 0, .ref 182, .int 35 0, .int 0 0, .ref 187, .int 37 0, .int 0 0, .ref 194, .int 39 0, .int 0 0, .ref 201, .int 42 0, .int 0 0, .ref 208, .int 50 0, .int 0 0, .ref 216, .int 53 0, .int 0 0, .ref 223, .int 55 0, .int 0 0, .ref 230, .int 61 0, .int 0 0, .ref 238, .int 63 0, .int 0 0, .ref 245, .int 66 0, .int 0 0, .ref 252, .int 68 0, .int 0 0, .ref 257, .int 70 0, .int 0 0, .ref 262, .int 75 0, .int 0 0, .ref 269, .int 80 0, .int 0 0, .ref 274, .int 82 0, .int 0 0, .ref 279, .int 84 0, .int 0 0, .ref 286, .int 86 0, .int 0 0, .ref 291, .int 91 0, .int 0 0, .ref 298, .int 97 0, .int 0 0, .ref 303, .int 99 0, .int 0 0, .ref 310, .int 101 0, .int 0 0, .ref 317, .int 103 0, .int 0 0, .ref 324])),
  (43, hOb (.type "tuple") (.seq #[.type "ValueError"] 0)),
  (44, hOb (.type "builtin_function_or_method") (.fields #[.builtin "type.__prepare__", .type "type"])),
  (45, hOb (.type "dict") (.dict #[hDs P "__module__" 385 (.str "helpingmarks.errors" 376), hDs P "__qualname__" 387 (.str "MarkError" 386), hDs P "__firstlineno__" 389 (.int 3 388), hDs P "__static_attributes__" 390 (.ref 50)] 4)),
  (46, hOb (.type "tuple") (.seq #[] 0)),
  (47, hOb (.none) (.fields #[])),
  (48, hOb (.type "code") (.fields #[.str "MarkError" 380, .str "MarkError" 381, .str "/claim/cut.py" 382, .int 3 0, .int 0 0, .int 0 0, .int 0 0, .int 0 0, .ref 46, .bool false, .int 370 0, .ref 47, .none, .none, .none, .none, .int 383 0, .int 3 0, .str "/claim/cut.py" 384])),
  (49, ⟨.type "frame", none, .plain, #[some (.ref 48), some (.ref 3), some (.ref 45), none, some (.str "helpingmarks.errors" 376), none, some (.ref 0)]⟩),
  (50, hOb (.type "tuple") (.seq #[] 0)),
  (51, hOb (.type "dict") (.dict #[hDs P "__module__" 385 (.str "helpingmarks.errors" 376), hDs P "__firstlineno__" 389 (.int 3 388), hDs P "__static_attributes__" 390 (.ref 50), hDs P "__weakref__" 392 (.ref 53), hDs P "__doc__" 393 (.none)] 3)),
  (52, ⟨.type "type", none, (.cls ⟨"MarkError", [.type "ValueError"], [.ref 52, .type "ValueError", .type "Exception", .type "BaseException", .type "object"], 51, "MarkError", true, [], [.ref 72, .ref 91, .ref 110, .ref 129, .ref 148, .ref 160], false, none, false⟩), #[some (.ref 43), none, some (.str "MarkError" 378), some (.str "MarkError" 386), some (.builtin "ValueError.__new__"), some (.bool true)]⟩),
  (53, hOb (.type "getset_descriptor") (.fields #[.str "__weakref__" 391, .ref 52, .builtin "ExceptionGroup.__weakref__", .none])),
  (54, hOb (.type "super") (.fields #[.ref 52, .ref 52, .ref 52])),
  (55, hOb (.type "builtin_function_or_method") (.fields #[.builtin "object.__init_subclass__", .ref 52])),
  (56, hOb (.type "tuple") (.seq #[.ref 52] 0)),
  (57, hOb (.type "builtin_function_or_method") (.fields #[.builtin "type.__prepare__", .type "type"])),
  (58, hOb (.type "dict") (.dict #[hDs P "__module__" 403 (.str "helpingmarks.errors" 376), hDs P "__qualname__" 405 (.str "InvalidNumber" 404), hDs P "__firstlineno__" 407 (.int 5 406), hDs P "__init__" 415 (.ref 69), hDs P "__static_attributes__" 417 (.ref 70)] 5)),
  (59, hOb (.type "tuple") (.seq #[] 0)),
  (60, hOb (.none) (.fields #[.int 7 0, .int 4 0, .ref 68])),
  (61, hOb (.type "code") (.fields #[.str "InvalidNumber" 398, .str "InvalidNumber" 399, .str "/claim/cut.py" 400, .int 5 0, .int 0 0, .int 0 0, .int 0 0, .int 0 0, .ref 59, .bool false, .int 370 0, .ref 60, .none, .none, .none, .none, .int 401 0, .int 5 0, .str "/claim/cut.py" 402])),
  (62, ⟨.type "frame", none, .plain, #[some (.ref 61), some (.ref 3), some (.ref 58), none, some (.str "helpingmarks.errors" 376), none, some (.ref 0)]⟩),
  (63, hOb (.type "tuple") (.seq #[] 0)),
  (64, hOb (.none) (.fields #[])),
  (65, hOb (.type "tuple") (.seq #[.str "self" 411, .str "given" 412] 0)),
  (66, hOb (.type "tuple") (.seq #[] 0)),
  (67, hOb (.none) (hFd "__init__" "InvalidNumber.__init__" (hMm (hTp 3) 0) 0 (.none) (.none) (.none) (.none) none (.none) (.none) 0)),
  (68, hOb (.type "code") (.fields #[.str "__init__" 408, .str "InvalidNumber.__init__" 409, .str "/claim/cut.py" 410, .int 7 0, .int 2 0, .int 0 0, .int 0 0, .int 3 0, .ref 63, .bool true, .int 370 0, .ref 64, .none, .ref 65, .ref 66, .ref 67, .int 413 0, .int 7 0, .str "/claim/cut.py" 414])),
  (69, hOb (.type "function") (hFd "__init__" "InvalidNumber.__init__" (hMm (hTp 3) 0) 3 (.none) (.none) (.none) (.str "helpingmarks.errors" 376) none (.ref 68) (.none) 0)),
  (70, hOb (.type "tuple") (.seq #[.str "given" 416] 0)),
  (71, hOb (.type "dict") (.dict #[hDs P "__module__" 403 (.str "helpingmarks.errors" 376), hDs P "__firstlineno__" 407 (.int 5 406), hDs P "__init__" 415 (.ref 69), hDs P "__static_attributes__" 417 (.ref 70), hDs P "__doc__" 418 (.none)] 2)),
  (72, ⟨.type "type", none, (.cls ⟨"InvalidNumber", [.ref 52], [.ref 72, .ref 52, .type "ValueError", .type "Exception", .type "BaseException", .type "object"], 71, "InvalidNumber", true, [], [], false, none, false⟩), #[some (.ref 56), none, some (.str "InvalidNumber" 396), some (.str "InvalidNumber" 404), some (.builtin "ValueError.__new__"), some (.bool true)]⟩),
  (73, hOb (.type "super") (.fields #[.ref 72, .ref 72, .ref 72])),
  (74, hOb (.type "builtin_function_or_method") (.fields #[.builtin "object.__init_subclass__", .ref 72])),
  (75, hOb (.type "tuple") (.seq #[.ref 52] 0)),
  (76, hOb (.type "builtin_function_or_method") (.fields #[.builtin "type.__prepare__", .type "type"])),
  (77, hOb (.type "dict") (.dict #[hDs P "__module__" 428 (.str "helpingmarks.errors" 376), hDs P "__qualname__" 430 (.str "InvalidLine" 429), hDs P "__firstlineno__" 432 (.int 9 431), hDs P "__init__" 440 (.ref 88), hDs P "__static_attributes__" 442 (.ref 89)] 5)),
  (78, hOb (.type "tuple") (.seq #[] 0)),
  (79, hOb (.none) (.fields #[.int 11 0, .int 4 0, .ref 87])),
  (80, hOb (.type "code") (.fields #[.str "InvalidLine" 423, .str "InvalidLine" 424, .str "/claim/cut.py" 425, .int 9 0, .int 0 0, .int 0 0, .int 0 0, .int 0 0, .ref 78, .bool false, .int 370 0, .ref 79, .none, .none, .none, .none, .int 426 0, .int 9 0, .str "/claim/cut.py" 427]))]
def oL40_1 (P : Params) : List (Nat × Obj) := [
  (81, ⟨.type "frame", none, .plain, #[some (.ref 80), some (.ref 3), some (.ref 77), none, some (.str "helpingmarks.errors" 376), none, some (.ref 0)]⟩),
  (82, hOb (.type "tuple") (.seq #[] 0)),
  (83, hOb (.none) (.fields #[])),
  (84, hOb (.type "tuple") (.seq #[.str "self" 436, .str "given" 437] 0)),
  (85, hOb (.type "tuple") (.seq #[] 0)),
  (86, hOb (.none) (hFd "__init__" "InvalidLine.__init__" (hMm (hTp 4) 0) 0 (.none) (.none) (.none) (.none) none (.none) (.none) 0)),
  (87, hOb (.type "code") (.fields #[.str "__init__" 433, .str "InvalidLine.__init__" 434, .str "/claim/cut.py" 435, .int 11 0, .int 2 0, .int 0 0, .int 0 0, .int 3 0, .ref 82, .bool true, .int 370 0, .ref 83, .none, .ref 84, .ref 85, .ref 86, .int 438 0, .int 11 0, .str "/claim/cut.py" 439])),
  (88, hOb (.type "function") (hFd "__init__" "InvalidLine.__init__" (hMm (hTp 4) 0) 3 (.none) (.none) (.none) (.str "helpingmarks.errors" 376) none (.ref 87) (.none) 0)),
  (89, hOb (.type "tuple") (.seq #[.str "given" 441] 0)),
  (90, hOb (.type "dict") (.dict #[hDs P "__module__" 428 (.str "helpingmarks.errors" 376), hDs P "__firstlineno__" 432 (.int 9 431), hDs P "__init__" 440 (.ref 88), hDs P "__static_attributes__" 442 (.ref 89), hDs P "__doc__" 443 (.none)] 2)),
  (91, ⟨.type "type", none, (.cls ⟨"InvalidLine", [.ref 52], [.ref 91, .ref 52, .type "ValueError", .type "Exception", .type "BaseException", .type "object"], 90, "InvalidLine", true, [], [], false, none, false⟩), #[some (.ref 75), none, some (.str "InvalidLine" 421), some (.str "InvalidLine" 429), some (.builtin "ValueError.__new__"), some (.bool true)]⟩),
  (92, hOb (.type "super") (.fields #[.ref 91, .ref 91, .ref 91])),
  (93, hOb (.type "builtin_function_or_method") (.fields #[.builtin "object.__init_subclass__", .ref 91])),
  (94, hOb (.type "tuple") (.seq #[.ref 52] 0)),
  (95, hOb (.type "builtin_function_or_method") (.fields #[.builtin "type.__prepare__", .type "type"])),
  (96, hOb (.type "dict") (.dict #[hDs P "__module__" 453 (.str "helpingmarks.errors" 376), hDs P "__qualname__" 455 (.str "NotATally" 454), hDs P "__firstlineno__" 457 (.int 13 456), hDs P "__init__" 465 (.ref 107), hDs P "__static_attributes__" 467 (.ref 108)] 5)),
  (97, hOb (.type "tuple") (.seq #[] 0)),
  (98, hOb (.none) (.fields #[.int 15 0, .int 4 0, .ref 106])),
  (99, hOb (.type "code") (.fields #[.str "NotATally" 448, .str "NotATally" 449, .str "/claim/cut.py" 450, .int 13 0, .int 0 0, .int 0 0, .int 0 0, .int 0 0, .ref 97, .bool false, .int 370 0, .ref 98, .none, .none, .none, .none, .int 451 0, .int 13 0, .str "/claim/cut.py" 452])),
  (100, ⟨.type "frame", none, .plain, #[some (.ref 99), some (.ref 3), some (.ref 96), none, some (.str "helpingmarks.errors" 376), none, some (.ref 0)]⟩),
  (101, hOb (.type "tuple") (.seq #[] 0)),
  (102, hOb (.none) (.fields #[])),
  (103, hOb (.type "tuple") (.seq #[.str "self" 461, .str "given" 462] 0)),
  (104, hOb (.type "tuple") (.seq #[] 0)),
  (105, hOb (.none) (hFd "__init__" "NotATally.__init__" (hMm (hTp 5) 0) 0 (.none) (.none) (.none) (.none) none (.none) (.none) 0)),
  (106, hOb (.type "code") (.fields #[.str "__init__" 458, .str "NotATally.__init__" 459, .str "/claim/cut.py" 460, .int 15 0, .int 2 0, .int 0 0, .int 0 0, .int 3 0, .ref 101, .bool true, .int 370 0, .ref 102, .none, .ref 103, .ref 104, .ref 105, .int 463 0, .int 15 0, .str "/claim/cut.py" 464])),
  (107, hOb (.type "function") (hFd "__init__" "NotATally.__init__" (hMm (hTp 5) 0) 3 (.none) (.none) (.none) (.str "helpingmarks.errors" 376) none (.ref 106) (.none) 0)),
  (108, hOb (.type "tuple") (.seq #[.str "given" 466] 0)),
  (109, hOb (.type "dict") (.dict #[hDs P "__module__" 453 (.str "helpingmarks.errors" 376), hDs P "__firstlineno__" 457 (.int 13 456), hDs P "__init__" 465 (.ref 107), hDs P "__static_attributes__" 467 (.ref 108), hDs P "__doc__" 468 (.none)] 2)),
  (110, ⟨.type "type", none, (.cls ⟨"NotATally", [.ref 52], [.ref 110, .ref 52, .type "ValueError", .type "Exception", .type "BaseException", .type "object"], 109, "NotATally", true, [], [], false, none, false⟩), #[some (.ref 94), none, some (.str "NotATally" 446), some (.str "NotATally" 454), some (.builtin "ValueError.__new__"), some (.bool true)]⟩),
  (111, hOb (.type "super") (.fields #[.ref 110, .ref 110, .ref 110])),
  (112, hOb (.type "builtin_function_or_method") (.fields #[.builtin "object.__init_subclass__", .ref 110])),
  (113, hOb (.type "tuple") (.seq #[.ref 52] 0)),
  (114, hOb (.type "builtin_function_or_method") (.fields #[.builtin "type.__prepare__", .type "type"])),
  (115, hOb (.type "dict") (.dict #[hDs P "__module__" 478 (.str "helpingmarks.errors" 376), hDs P "__qualname__" 480 (.str "InvalidDeed" 479), hDs P "__firstlineno__" 482 (.int 17 481), hDs P "__init__" 490 (.ref 126), hDs P "__static_attributes__" 492 (.ref 127)] 5)),
  (116, hOb (.type "tuple") (.seq #[] 0)),
  (117, hOb (.none) (.fields #[.int 19 0, .int 4 0, .ref 125])),
  (118, hOb (.type "code") (.fields #[.str "InvalidDeed" 473, .str "InvalidDeed" 474, .str "/claim/cut.py" 475, .int 17 0, .int 0 0, .int 0 0, .int 0 0, .int 0 0, .ref 116, .bool false, .int 370 0, .ref 117, .none, .none, .none, .none, .int 476 0, .int 17 0, .str "/claim/cut.py" 477])),
  (119, ⟨.type "frame", none, .plain, #[some (.ref 118), some (.ref 3), some (.ref 115), none, some (.str "helpingmarks.errors" 376), none, some (.ref 0)]⟩),
  (120, hOb (.type "tuple") (.seq #[] 0))]
def oL40_2 (P : Params) : List (Nat × Obj) := [
  (121, hOb (.none) (.fields #[])),
  (122, hOb (.type "tuple") (.seq #[.str "self" 486, .str "index" 487] 0)),
  (123, hOb (.type "tuple") (.seq #[] 0)),
  (124, hOb (.none) (hFd "__init__" "InvalidDeed.__init__" (hMm (hTp 6) 0) 0 (.none) (.none) (.none) (.none) none (.none) (.none) 0)),
  (125, hOb (.type "code") (.fields #[.str "__init__" 483, .str "InvalidDeed.__init__" 484, .str "/claim/cut.py" 485, .int 19 0, .int 2 0, .int 0 0, .int 0 0, .int 3 0, .ref 120, .bool true, .int 370 0, .ref 121, .none, .ref 122, .ref 123, .ref 124, .int 488 0, .int 19 0, .str "/claim/cut.py" 489])),
  (126, hOb (.type "function") (hFd "__init__" "InvalidDeed.__init__" (hMm (hTp 6) 0) 3 (.none) (.none) (.none) (.str "helpingmarks.errors" 376) none (.ref 125) (.none) 0)),
  (127, hOb (.type "tuple") (.seq #[.str "index" 491] 0)),
  (128, hOb (.type "dict") (.dict #[hDs P "__module__" 478 (.str "helpingmarks.errors" 376), hDs P "__firstlineno__" 482 (.int 17 481), hDs P "__init__" 490 (.ref 126), hDs P "__static_attributes__" 492 (.ref 127), hDs P "__doc__" 493 (.none)] 2)),
  (129, ⟨.type "type", none, (.cls ⟨"InvalidDeed", [.ref 52], [.ref 129, .ref 52, .type "ValueError", .type "Exception", .type "BaseException", .type "object"], 128, "InvalidDeed", true, [], [], false, none, false⟩), #[some (.ref 113), none, some (.str "InvalidDeed" 471), some (.str "InvalidDeed" 479), some (.builtin "ValueError.__new__"), some (.bool true)]⟩),
  (130, hOb (.type "super") (.fields #[.ref 129, .ref 129, .ref 129])),
  (131, hOb (.type "builtin_function_or_method") (.fields #[.builtin "object.__init_subclass__", .ref 129])),
  (132, hOb (.type "tuple") (.seq #[.ref 52] 0)),
  (133, hOb (.type "builtin_function_or_method") (.fields #[.builtin "type.__prepare__", .type "type"])),
  (134, hOb (.type "dict") (.dict #[hDs P "__module__" 503 (.str "helpingmarks.errors" 376), hDs P "__qualname__" 505 (.str "Barred" 504), hDs P "__firstlineno__" 507 (.int 21 506), hDs P "__init__" 515 (.ref 145), hDs P "__static_attributes__" 517 (.ref 146)] 5)),
  (135, hOb (.type "tuple") (.seq #[] 0)),
  (136, hOb (.none) (.fields #[.int 23 0, .int 4 0, .ref 144])),
  (137, hOb (.type "code") (.fields #[.str "Barred" 498, .str "Barred" 499, .str "/claim/cut.py" 500, .int 21 0, .int 0 0, .int 0 0, .int 0 0, .int 0 0, .ref 135, .bool false, .int 370 0, .ref 136, .none, .none, .none, .none, .int 501 0, .int 21 0, .str "/claim/cut.py" 502])),
  (138, ⟨.type "frame", none, .plain, #[some (.ref 137), some (.ref 3), some (.ref 134), none, some (.str "helpingmarks.errors" 376), none, some (.ref 0)]⟩),
  (139, hOb (.type "tuple") (.seq #[] 0)),
  (140, hOb (.none) (.fields #[])),
  (141, hOb (.type "tuple") (.seq #[.str "self" 511, .str "reason" 512] 0)),
  (142, hOb (.type "tuple") (.seq #[] 0)),
  (143, hOb (.none) (hFd "__init__" "Barred.__init__" (hMm (hTp 7) 0) 0 (.none) (.none) (.none) (.none) none (.none) (.none) 0)),
  (144, hOb (.type "code") (.fields #[.str "__init__" 508, .str "Barred.__init__" 509, .str "/claim/cut.py" 510, .int 23 0, .int 2 0, .int 0 0, .int 0 0, .int 3 0, .ref 139, .bool true, .int 370 0, .ref 140, .none, .ref 141, .ref 142, .ref 143, .int 513 0, .int 23 0, .str "/claim/cut.py" 514])),
  (145, hOb (.type "function") (hFd "__init__" "Barred.__init__" (hMm (hTp 7) 0) 3 (.none) (.none) (.none) (.str "helpingmarks.errors" 376) none (.ref 144) (.none) 0)),
  (146, hOb (.type "tuple") (.seq #[.str "reason" 516] 0)),
  (147, hOb (.type "dict") (.dict #[hDs P "__module__" 503 (.str "helpingmarks.errors" 376), hDs P "__firstlineno__" 507 (.int 21 506), hDs P "__init__" 515 (.ref 145), hDs P "__static_attributes__" 517 (.ref 146), hDs P "__doc__" 518 (.none)] 2)),
  (148, ⟨.type "type", none, (.cls ⟨"Barred", [.ref 52], [.ref 148, .ref 52, .type "ValueError", .type "Exception", .type "BaseException", .type "object"], 147, "Barred", true, [], [], false, none, false⟩), #[some (.ref 132), none, some (.str "Barred" 496), some (.str "Barred" 504), some (.builtin "ValueError.__new__"), some (.bool true)]⟩),
  (149, hOb (.type "super") (.fields #[.ref 148, .ref 148, .ref 148])),
  (150, hOb (.type "builtin_function_or_method") (.fields #[.builtin "object.__init_subclass__", .ref 148])),
  (151, hOb (.type "tuple") (.seq #[.ref 52] 0)),
  (152, hOb (.type "builtin_function_or_method") (.fields #[.builtin "type.__prepare__", .type "type"])),
  (153, hOb (.type "dict") (.dict #[hDs P "__module__" 528 (.str "helpingmarks.errors" 376), hDs P "__qualname__" 530 (.str "NothingToUndo" 529), hDs P "__firstlineno__" 532 (.int 25 531), hDs P "__static_attributes__" 533 (.ref 158)] 4)),
  (154, hOb (.type "tuple") (.seq #[] 0)),
  (155, hOb (.none) (.fields #[])),
  (156, hOb (.type "code") (.fields #[.str "NothingToUndo" 523, .str "NothingToUndo" 524, .str "/claim/cut.py" 525, .int 25 0, .int 0 0, .int 0 0, .int 0 0, .int 0 0, .ref 154, .bool false, .int 370 0, .ref 155, .none, .none, .none, .none, .int 526 0, .int 25 0, .str "/claim/cut.py" 527])),
  (157, ⟨.type "frame", none, .plain, #[some (.ref 156), some (.ref 3), some (.ref 153), none, some (.str "helpingmarks.errors" 376), none, some (.ref 0)]⟩),
  (158, hOb (.type "tuple") (.seq #[] 0)),
  (159, hOb (.type "dict") (.dict #[hDs P "__module__" 528 (.str "helpingmarks.errors" 376), hDs P "__firstlineno__" 532 (.int 25 531), hDs P "__static_attributes__" 533 (.ref 158), hDs P "__doc__" 534 (.none)] 2)),
  (160, ⟨.type "type", none, (.cls ⟨"NothingToUndo", [.ref 52], [.ref 160, .ref 52, .type "ValueError", .type "Exception", .type "BaseException", .type "object"], 159, "NothingToUndo", true, [], [], false, none, false⟩), #[some (.ref 151), none, some (.str "NothingToUndo" 521), some (.str "NothingToUndo" 529), some (.builtin "ValueError.__new__"), some (.bool true)]⟩)]
def oL40_3 (P : Params) : List (Nat × Obj) := [
  (161, hOb (.type "super") (.fields #[.ref 160, .ref 160, .ref 160])),
  (162, hOb (.type "builtin_function_or_method") (.fields #[.builtin "object.__init_subclass__", .ref 160])),
  (163, hOb (.type "tuple") (.seq #[] 0)),
  (164, hOb (.none) (.fields #[])),
  (165, hOb (.type "tuple") (.seq #[.str "value" 544] 0)),
  (166, hOb (.type "tuple") (.seq #[] 0)),
  (167, hOb (.none) (hFd "is_whole" "is_whole" (hTp 11) 0 (.none) (.none) (.none) (.none) none (.none) (.none) 0)),
  (168, hOb (.type "code") (.fields #[.str "is_whole" 541, .str "is_whole" 542, .str "/claim/cut.py" 543, .int 29 0, .int 1 0, .int 0 0, .int 0 0, .int 3 0, .ref 163, .bool true, .int 370 0, .ref 164, .none, .ref 165, .ref 166, .ref 167, .int 545 0, .int 29 0, .str "/claim/cut.py" 546])),
  (169, hOb (.type "function") (hFd "is_whole" "is_whole" (hTp 11) 3 (.none) (.none) (.none) (.str "helpingmarks.values" 537) none (.ref 168) (.none) 0)),
  (170, hOb (.type "tuple") (.seq #[] 0)),
  (171, hOb (.none) (.fields #[])),
  (172, hOb (.type "tuple") (.seq #[.str "value" 551, .str "least" 552, .str "most" 553] 0)),
  (173, hOb (.type "tuple") (.seq #[] 0)),
  (174, hOb (.none) (hFd "is_between" "is_between" (hTp 12) 0 (.none) (.none) (.none) (.none) none (.none) (.none) 0)),
  (175, hOb (.type "code") (.fields #[.str "is_between" 548, .str "is_between" 549, .str "/claim/cut.py" 550, .int 31 0, .int 3 0, .int 0 0, .int 0 0, .int 3 0, .ref 170, .bool true, .int 370 0, .ref 171, .none, .ref 172, .ref 173, .ref 174, .int 554 0, .int 31 0, .str "/claim/cut.py" 555])),
  (176, hOb (.type "function") (hFd "is_between" "is_between" (hTp 12) 3 (.none) (.none) (.none) (.str "helpingmarks.values" 537) none (.ref 175) (.none) 0)),
  (177, hOb (.type "tuple") (.seq #[] 0)),
  (178, hOb (.none) (.fields #[])),
  (179, hOb (.type "tuple") (.seq #[.str "value" 560] 0)),
  (180, hOb (.type "tuple") (.seq #[] 0)),
  (181, hOb (.none) (hFd "is_string" "is_string" (hTp 13) 0 (.none) (.none) (.none) (.none) none (.none) (.none) 0)),
  (182, hOb (.type "code") (.fields #[.str "is_string" 557, .str "is_string" 558, .str "/claim/cut.py" 559, .int 33 0, .int 1 0, .int 0 0, .int 0 0, .int 3 0, .ref 177, .bool true, .int 370 0, .ref 178, .none, .ref 179, .ref 180, .ref 181, .int 561 0, .int 33 0, .str "/claim/cut.py" 562])),
  (183, hOb (.type "function") (hFd "is_string" "is_string" (hTp 13) 3 (.none) (.none) (.none) (.str "helpingmarks.values" 537) none (.ref 182) (.none) 0)),
  (184, hOb (.type "tuple") (.seq #[] 0)),
  (185, hOb (.none) (.fields #[])),
  (186, hOb (.none) (hFd "is_made_of" "is_made_of" (hTp 14) 0 (.none) (.none) (.none) (.none) none (.none) (.none) 0)),
  (187, hOb (.type "code") (.fields #[.str "is_made_of" 564, .str "is_made_of" 565, .str "/claim/cut.py" 566, .int 35 0, .int 2 0, .int 0 0, .int 0 0, .int 3 0, .ref 184, .bool true, .int 370 0, .ref 185, .none, .none, .none, .ref 186, .int 567 0, .int 35 0, .str "/claim/cut.py" 568])),
  (188, hOb (.type "function") (hFd "is_made_of" "is_made_of" (hTp 14) 3 (.none) (.none) (.none) (.str "helpingmarks.values" 537) none (.ref 187) (.none) 0)),
  (189, hOb (.type "tuple") (.seq #[] 0)),
  (190, hOb (.none) (.fields #[])),
  (191, hOb (.type "tuple") (.seq #[.str "value" 573, .str "many" 574] 0)),
  (192, hOb (.type "tuple") (.seq #[] 0)),
  (193, hOb (.none) (hFd "is_tuple_of" "is_tuple_of" (hTp 15) 0 (.none) (.none) (.none) (.none) none (.none) (.none) 0)),
  (194, hOb (.type "code") (.fields #[.str "is_tuple_of" 570, .str "is_tuple_of" 571, .str "/claim/cut.py" 572, .int 37 0, .int 2 0, .int 0 0, .int 0 0, .int 3 0, .ref 189, .bool true, .int 370 0, .ref 190, .none, .ref 191, .ref 192, .ref 193, .int 575 0, .int 37 0, .str "/claim/cut.py" 576])),
  (195, hOb (.type "function") (hFd "is_tuple_of" "is_tuple_of" (hTp 15) 3 (.none) (.none) (.none) (.str "helpingmarks.values" 537) none (.ref 194) (.none) 0)),
  (196, hOb (.type "tuple") (.seq #[] 0)),
  (197, hOb (.none) (.fields #[])),
  (198, hOb (.type "tuple") (.seq #[.str "line" 581, .str "words" 582] 0)),
  (199, hOb (.type "tuple") (.seq #[] 0)),
  (200, hOb (.none) (hFd "words_of" "words_of" (hTp 16) 0 (.none) (.none) (.none) (.none) none (.none) (.none) 0))]
def oL40_4 (P : Params) : List (Nat × Obj) := [
  (201, hOb (.type "code") (.fields #[.str "words_of" 578, .str "words_of" 579, .str "/claim/cut.py" 580, .int 39 0, .int 1 0, .int 0 0, .int 0 0, .int 3 0, .ref 196, .bool true, .int 370 0, .ref 197, .none, .ref 198, .ref 199, .ref 200, .int 583 0, .int 39 0, .str "/claim/cut.py" 584])),
  (202, hOb (.type "function") (hFd "words_of" "words_of" (hTp 16) 3 (.none) (.none) (.none) (.str "helpingmarks.values" 537) none (.ref 201) (.none) 0)),
  (203, hOb (.type "tuple") (.seq #[] 0)),
  (204, hOb (.none) (.fields #[])),
  (205, hOb (.type "tuple") (.seq #[.str "word" 589, .str "found" 590, .str "sign" 591] 0)),
  (206, hOb (.type "tuple") (.seq #[] 0)),
  (207, hOb (.none) (hFd "number_in" "number_in" (hTp 17) 0 (.none) (.none) (.none) (.none) none (.none) (.none) 0)),
  (208, hOb (.type "code") (.fields #[.str "number_in" 586, .str "number_in" 587, .str "/claim/cut.py" 588, .int 42 0, .int 1 0, .int 0 0, .int 0 0, .int 3 0, .ref 203, .bool true, .int 370 0, .ref 204, .none, .ref 205, .ref 206, .ref 207, .int 592 0, .int 42 0, .str "/claim/cut.py" 593])),
  (209, hOb (.type "function") (hFd "number_in" "number_in" (hTp 17) 3 (.none) (.none) (.none) (.str "helpingmarks.values" 537) none (.ref 208) (.none) 0)),
  (210, hOb (.type "tuple") (.seq #[.int 1 595, .int 1 596] 0)),
  (211, hOb (.type "tuple") (.seq #[] 0)),
  (212, hOb (.none) (.fields #[])),
  (213, hOb (.type "tuple") (.seq #[.str "over" 601, .str "under" 602, .str "common" 603] 0)),
  (214, hOb (.type "tuple") (.seq #[] 0)),
  (215, hOb (.none) (hFd "lowest" "lowest" (hTp 19) 0 (.none) (.none) (.none) (.none) none (.none) (.none) 0)),
  (216, hOb (.type "code") (.fields #[.str "lowest" 598, .str "lowest" 599, .str "/claim/cut.py" 600, .int 50 0, .int 2 0, .int 0 0, .int 0 0, .int 3 0, .ref 211, .bool true, .int 370 0, .ref 212, .none, .ref 213, .ref 214, .ref 215, .int 604 0, .int 50 0, .str "/claim/cut.py" 605])),
  (217, hOb (.type "function") (hFd "lowest" "lowest" (hTp 19) 3 (.none) (.none) (.none) (.str "helpingmarks.values" 537) none (.ref 216) (.none) 0)),
  (218, hOb (.type "tuple") (.seq #[] 0)),
  (219, hOb (.none) (.fields #[])),
  (220, hOb (.type "tuple") (.seq #[.str "one" 610, .str "other" 611] 0)),
  (221, hOb (.type "tuple") (.seq #[] 0)),
  (222, hOb (.none) (hFd "less_by" "less_by" (hTp 20) 0 (.none) (.none) (.none) (.none) none (.none) (.none) 0)),
  (223, hOb (.type "code") (.fields #[.str "less_by" 607, .str "less_by" 608, .str "/claim/cut.py" 609, .int 53 0, .int 2 0, .int 0 0, .int 0 0, .int 3 0, .ref 218, .bool true, .int 370 0, .ref 219, .none, .ref 220, .ref 221, .ref 222, .int 612 0, .int 53 0, .str "/claim/cut.py" 613])),
  (224, hOb (.type "function") (hFd "less_by" "less_by" (hTp 20) 3 (.none) (.none) (.none) (.str "helpingmarks.values" 537) none (.ref 223) (.none) 0)),
  (225, hOb (.type "tuple") (.seq #[] 0)),
  (226, hOb (.none) (.fields #[])),
  (227, hOb (.type "tuple") (.seq #[.str "one" 618, .str "other" 619] 0)),
  (228, hOb (.type "tuple") (.seq #[] 0)),
  (229, hOb (.none) (hFd "times" "times" (hTp 21) 0 (.none) (.none) (.none) (.none) none (.none) (.none) 0)),
  (230, hOb (.type "code") (.fields #[.str "times" 615, .str "times" 616, .str "/claim/cut.py" 617, .int 55 0, .int 2 0, .int 0 0, .int 0 0, .int 3 0, .ref 225, .bool true, .int 370 0, .ref 226, .none, .ref 227, .ref 228, .ref 229, .int 620 0, .int 55 0, .str "/claim/cut.py" 621])),
  (231, hOb (.type "function") (hFd "times" "times" (hTp 21) 3 (.none) (.none) (.none) (.str "helpingmarks.values" 537) none (.ref 230) (.none) 0)),
  (232, hOb (.type "dict") (.dict #[⟨2, .int 2 629, .int 1 630⟩, ⟨4, .int 4 631, .int 2 632⟩, ⟨8, .int 8 633, .int 3 634⟩] 3)),
  (233, hOb (.type "tuple") (.seq #[] 0)),
  (234, hOb (.none) (.fields #[])),
  (235, hOb (.type "tuple") (.seq #[.str "value" 642] 0)),
  (236, hOb (.type "tuple") (.seq #[] 0)),
  (237, hOb (.none) (hFd "is_marks" "is_marks" (hTp 26) 0 (.none) (.none) (.none) (.none) none (.none) (.none) 0)),
  (238, hOb (.type "code") (.fields #[.str "is_marks" 639, .str "is_marks" 640, .str "/claim/cut.py" 641, .int 61 0, .int 1 0, .int 0 0, .int 0 0, .int 3 0, .ref 233, .bool true, .int 370 0, .ref 234, .none, .ref 235, .ref 236, .ref 237, .int 643 0, .int 61 0, .str "/claim/cut.py" 644])),
  (239, hOb (.type "function") (hFd "is_marks" "is_marks" (hTp 26) 3 (.none) (.none) (.none) (.str "helpingmarks.rows" 623) none (.ref 238) (.none) 0)),
  (240, hOb (.type "tuple") (.seq #[] 0))]
def oL40_5 (P : Params) : List (Nat × Obj) := [
  (241, hOb (.none) (.fields #[])),
  (242, hOb (.type "tuple") (.seq #[.str "marks" 649] 0)),
  (243, hOb (.type "tuple") (.seq #[] 0)),
  (244, hOb (.none) (hFd "check_marks" "check_marks" (hTp 27) 0 (.none) (.none) (.none) (.none) none (.none) (.none) 0)),
  (245, hOb (.type "code") (.fields #[.str "check_marks" 646, .str "check_marks" 647, .str "/claim/cut.py" 648, .int 63 0, .int 1 0, .int 0 0, .int 0 0, .int 3 0, .ref 240, .bool true, .int 370 0, .ref 241, .none, .ref 242, .ref 243, .ref 244, .int 650 0, .int 63 0, .str "/claim/cut.py" 651])),
  (246, hOb (.type "function") (hFd "check_marks" "check_marks" (hTp 27) 3 (.none) (.none) (.none) (.str "helpingmarks.rows" 623) none (.ref 245) (.none) 0)),
  (247, hOb (.type "tuple") (.seq #[] 0)),
  (248, hOb (.none) (.fields #[])),
  (249, hOb (.type "tuple") (.seq #[.str "marks" 656, .str "value" 657] 0)),
  (250, hOb (.type "tuple") (.seq #[] 0)),
  (251, hOb (.none) (hFd "is_mark" "is_mark" (hTp 28) 0 (.none) (.none) (.none) (.none) none (.none) (.none) 0)),
  (252, hOb (.type "code") (.fields #[.str "is_mark" 653, .str "is_mark" 654, .str "/claim/cut.py" 655, .int 66 0, .int 2 0, .int 0 0, .int 0 0, .int 3 0, .ref 247, .bool true, .int 370 0, .ref 248, .none, .ref 249, .ref 250, .ref 251, .int 658 0, .int 66 0, .str "/claim/cut.py" 659])),
  (253, hOb (.type "function") (hFd "is_mark" "is_mark" (hTp 28) 3 (.none) (.none) (.none) (.str "helpingmarks.rows" 623) none (.ref 252) (.none) 0)),
  (254, hOb (.type "tuple") (.seq #[] 0)),
  (255, hOb (.none) (.fields #[])),
  (256, hOb (.none) (hFd "is_row" "is_row" (hTp 29) 0 (.none) (.none) (.none) (.none) none (.none) (.none) 0)),
  (257, hOb (.type "code") (.fields #[.str "is_row" 661, .str "is_row" 662, .str "/claim/cut.py" 663, .int 68 0, .int 2 0, .int 0 0, .int 0 0, .int 3 0, .ref 254, .bool true, .int 370 0, .ref 255, .none, .none, .none, .ref 256, .int 664 0, .int 68 0, .str "/claim/cut.py" 665])),
  (258, hOb (.type "function") (hFd "is_row" "is_row" (hTp 29) 3 (.none) (.none) (.none) (.str "helpingmarks.rows" 623) none (.ref 257) (.none) 0)),
  (259, hOb (.type "tuple") (.seq #[] 0)),
  (260, hOb (.none) (.fields #[])),
  (261, hOb (.none) (hFd "rows_by" "rows_by" (hTp 30) 0 (.none) (.none) (.none) (.none) none (.none) (.none) 0)),
  (262, hOb (.type "code") (.fields #[.str "rows_by" 667, .str "rows_by" 668, .str "/claim/cut.py" 669, .int 70 0, .int 1 0, .int 0 0, .int 0 0, .int 3 0, .ref 259, .bool true, .int 370 0, .ref 260, .none, .none, .none, .ref 261, .int 670 0, .int 70 0, .str "/claim/cut.py" 671])),
  (263, hOb (.type "function") (hFd "rows_by" "rows_by" (hTp 30) 3 (.none) (.none) (.none) (.str "helpingmarks.rows" 623) none (.ref 262) (.none) 0)),
  (264, hOb (.type "tuple") (.seq #[] 0)),
  (265, hOb (.none) (.fields #[])),
  (266, hOb (.type "tuple") (.seq #[.str "row" 676, .str "found" 677, .str "own" 678] 0)),
  (267, hOb (.type "tuple") (.seq #[] 0)),
  (268, hOb (.none) (hFd "index_of" "index_of" (hTp 31) 0 (.none) (.none) (.none) (.none) none (.none) (.none) 0)),
  (269, hOb (.type "code") (.fields #[.str "index_of" 673, .str "index_of" 674, .str "/claim/cut.py" 675, .int 75 0, .int 1 0, .int 0 0, .int 0 0, .int 3 0, .ref 264, .bool true, .int 370 0, .ref 265, .none, .ref 266, .ref 267, .ref 268, .int 679 0, .int 75 0, .str "/claim/cut.py" 680])),
  (270, hOb (.type "function") (hFd "index_of" "index_of" (hTp 31) 3 (.none) (.none) (.none) (.str "helpingmarks.rows" 623) none (.ref 269) (.none) 0)),
  (271, hOb (.type "tuple") (.seq #[] 0)),
  (272, hOb (.none) (.fields #[])),
  (273, hOb (.none) (hFd "join_of" "join_of" (hTp 32) 0 (.none) (.none) (.none) (.none) none (.none) (.none) 0)),
  (274, hOb (.type "code") (.fields #[.str "join_of" 682, .str "join_of" 683, .str "/claim/cut.py" 684, .int 80 0, .int 2 0, .int 0 0, .int 0 0, .int 3 0, .ref 271, .bool true, .int 370 0, .ref 272, .none, .none, .none, .ref 273, .int 685 0, .int 80 0, .str "/claim/cut.py" 686])),
  (275, hOb (.type "function") (hFd "join_of" "join_of" (hTp 32) 3 (.none) (.none) (.none) (.str "helpingmarks.rows" 623) none (.ref 274) (.none) 0)),
  (276, hOb (.type "tuple") (.seq #[] 0)),
  (277, hOb (.none) (.fields #[])),
  (278, hOb (.none) (hFd "meet_of" "meet_of" (hTp 33) 0 (.none) (.none) (.none) (.none) none (.none) (.none) 0)),
  (279, hOb (.type "code") (.fields #[.str "meet_of" 688, .str "meet_of" 689, .str "/claim/cut.py" 690, .int 82 0, .int 2 0, .int 0 0, .int 0 0, .int 3 0, .ref 276, .bool true, .int 370 0, .ref 277, .none, .none, .none, .ref 278, .int 691 0, .int 82 0, .str "/claim/cut.py" 692])),
  (280, hOb (.type "function") (hFd "meet_of" "meet_of" (hTp 33) 3 (.none) (.none) (.none) (.str "helpingmarks.rows" 623) none (.ref 279) (.none) 0))]
def oL40_6 (P : Params) : List (Nat × Obj) := [
  (281, hOb (.type "tuple") (.seq #[] 0)),
  (282, hOb (.none) (.fields #[])),
  (283, hOb (.type "tuple") (.seq #[.str "row" 697, .str "mark" 698] 0)),
  (284, hOb (.type "tuple") (.seq #[] 0)),
  (285, hOb (.none) (hFd "with_changed" "with_changed" (hTp 34) 0 (.none) (.none) (.none) (.none) none (.none) (.none) 0)),
  (286, hOb (.type "code") (.fields #[.str "with_changed" 694, .str "with_changed" 695, .str "/claim/cut.py" 696, .int 84 0, .int 2 0, .int 0 0, .int 0 0, .int 3 0, .ref 281, .bool true, .int 370 0, .ref 282, .none, .ref 283, .ref 284, .ref 285, .int 699 0, .int 84 0, .str "/claim/cut.py" 700])),
  (287, hOb (.type "function") (hFd "with_changed" "with_changed" (hTp 34) 3 (.none) (.none) (.none) (.str "helpingmarks.rows" 623) none (.ref 286) (.none) 0)),
  (288, hOb (.type "tuple") (.seq #[] 0)),
  (289, hOb (.none) (.fields #[])),
  (290, hOb (.none) (hFd "lots_by" "lots_by" (hTp 35) 0 (.none) (.none) (.none) (.none) none (.none) (.none) 0)),
  (291, hOb (.type "code") (.fields #[.str "lots_by" 702, .str "lots_by" 703, .str "/claim/cut.py" 704, .int 86 0, .int 1 0, .int 0 0, .int 0 0, .int 3 0, .ref 288, .bool true, .int 370 0, .ref 289, .none, .none, .none, .ref 290, .int 705 0, .int 86 0, .str "/claim/cut.py" 706])),
  (292, hOb (.type "function") (hFd "lots_by" "lots_by" (hTp 35) 3 (.none) (.none) (.none) (.str "helpingmarks.rows" 623) none (.ref 291) (.none) 0)),
  (293, hOb (.type "tuple") (.seq #[] 0)),
  (294, hOb (.none) (.fields #[])),
  (295, hOb (.type "tuple") (.seq #[.str "marks" 711, .str "lot" 712, .str "row" 713, .str "mark" 714] 0)),
  (296, hOb (.type "tuple") (.seq #[] 0)),
  (297, hOb (.none) (hFd "is_rising_by" "is_rising_by" (hTp 36) 0 (.none) (.none) (.none) (.none) none (.none) (.none) 0)),
  (298, hOb (.type "code") (.fields #[.str "is_rising_by" 708, .str "is_rising_by" 709, .str "/claim/cut.py" 710, .int 91 0, .int 2 0, .int 0 0, .int 0 0, .int 3 0, .ref 293, .bool true, .int 370 0, .ref 294, .none, .ref 295, .ref 296, .ref 297, .int 715 0, .int 91 0, .str "/claim/cut.py" 716])),
  (299, hOb (.type "function") (hFd "is_rising_by" "is_rising_by" (hTp 36) 3 (.none) (.none) (.none) (.str "helpingmarks.rows" 623) none (.ref 298) (.none) 0)),
  (300, hOb (.type "tuple") (.seq #[] 0)),
  (301, hOb (.none) (.fields #[])),
  (302, hOb (.none) (hFd "rising_by" "rising_by" (hTp 37) 0 (.none) (.none) (.none) (.none) none (.none) (.none) 0)),
  (303, hOb (.type "code") (.fields #[.str "rising_by" 718, .str "rising_by" 719, .str "/claim/cut.py" 720, .int 97 0, .int 1 0, .int 0 0, .int 0 0, .int 3 0, .ref 300, .bool true, .int 370 0, .ref 301, .none, .none, .none, .ref 302, .int 721 0, .int 97 0, .str "/claim/cut.py" 722])),
  (304, hOb (.type "function") (hFd "rising_by" "rising_by" (hTp 37) 3 (.none) (.none) (.none) (.str "helpingmarks.rows" 623) none (.ref 303) (.none) 0)),
  (305, hOb (.type "tuple") (.seq #[] 0)),
  (306, hOb (.none) (.fields #[])),
  (307, hOb (.type "tuple") (.seq #[.str "table" 727] 0)),
  (308, hOb (.type "tuple") (.seq #[] 0)),
  (309, hOb (.none) (hFd "marks_of" "marks_of" (hTp 38) 0 (.none) (.none) (.none) (.none) none (.none) (.none) 0)),
  (310, hOb (.type "code") (.fields #[.str "marks_of" 724, .str "marks_of" 725, .str "/claim/cut.py" 726, .int 99 0, .int 1 0, .int 0 0, .int 0 0, .int 3 0, .ref 305, .bool true, .int 370 0, .ref 306, .none, .ref 307, .ref 308, .ref 309, .int 728 0, .int 99 0, .str "/claim/cut.py" 729])),
  (311, hOb (.type "function") (hFd "marks_of" "marks_of" (hTp 38) 3 (.none) (.none) (.none) (.str "helpingmarks.rows" 623) none (.ref 310) (.none) 0)),
  (312, hOb (.type "tuple") (.seq #[] 0)),
  (313, hOb (.none) (.fields #[])),
  (314, hOb (.type "tuple") (.seq #[.str "table" 734] 0)),
  (315, hOb (.type "tuple") (.seq #[] 0)),
  (316, hOb (.none) (hFd "total_by" "total_by" (hTp 39) 0 (.none) (.none) (.none) (.none) none (.none) (.none) 0)),
  (317, hOb (.type "code") (.fields #[.str "total_by" 731, .str "total_by" 732, .str "/claim/cut.py" 733, .int 101 0, .int 1 0, .int 0 0, .int 0 0, .int 3 0, .ref 312, .bool true, .int 370 0, .ref 313, .none, .ref 314, .ref 315, .ref 316, .int 735 0, .int 101 0, .str "/claim/cut.py" 736])),
  (318, hOb (.type "function") (hFd "total_by" "total_by" (hTp 39) 3 (.none) (.none) (.none) (.str "helpingmarks.rows" 623) none (.ref 317) (.none) 0)),
  (319, hOb (.type "tuple") (.seq #[] 0)),
  (320, hOb (.none) (.fields #[]))]
def oL40_7 (P : Params) : List (Nat × Obj) := [
  (321, hOb (.type "tuple") (.seq #[.str "table" 741, .str "row" 742] 0)),
  (322, hOb (.type "tuple") (.seq #[] 0)),
  (323, hOb (.none) (hFd "number_at" "number_at" (hTp 40) 0 (.none) (.none) (.none) (.none) none (.none) (.none) 0)),
  (324, hOb (.type "code") (.fields #[.str "number_at" 738, .str "number_at" 739, .str "/claim/cut.py" 740, .int 103 0, .int 2 0, .int 0 0, .int 0 0, .int 3 0, .ref 319, .bool true, .int 370 0, .ref 320, .none, .ref 321, .ref 322, .ref 323, .int 743 0, .int 103 0, .str "/claim/cut.py" 744])),
  (325, hOb (.type "function") (hFd "number_at" "number_at" (hTp 40) 3 (.none) (.none) (.none) (.str "helpingmarks.rows" 623) none (.ref 324) (.none) 0))]
def sL40 : StT := ⟨fun w => (insAll (insAll (insAll (insAll (insAll (insAll (insAll (insAll (sLa.T w) (oL40_0 w.params)) (oL40_1 w.params)) (oL40_2 w.params)) (oL40_3 w.params)) (oL40_4 w.params)) (oL40_5 w.params)) (oL40_6 w.params)) (oL40_7 w.params)), 326, {}, {}, 746⟩
def oL80_0 (P : Params) : List (Nat × Obj) := [
  (3, hOb (.type "dict") (.dict #[hDs P "__name__" 165 (.str "helpingmarks.consoles" 973), hDs P "__doc__" 166 (.none), hDs P "__package__" 167 (.none), hDs P "__loader__" 168 (.builtin "__main__.__loader__#opaque"), hDs P "__spec__" 169 (.none), hDs P "__annotations__" 170 (.ref 6), hDs P "__builtins__" 171 (.ref 4), hDs P "__file__" 173 (.str "/claim/cut.py" 172), hDs P "__cached__" 174 (.none), hDs P "gcd" 369 (.builtin "math.gcd"), hDs P "MarkError" 395 (.ref 52), hDs P "InvalidNumber" 420 (.ref 72), hDs P "InvalidLine" 445 (.ref 91), hDs P "NotATally" 470 (.ref 110), hDs P "InvalidDeed" 495 (.ref 129), hDs P "Barred" 520 (.ref 148), hDs P "NothingToUndo" 536 (.ref 160), hDs P "FIGURES" 540 (.str "0123456789" 539), hDs P "is_whole" 547 (.ref 169), hDs P "is_between" 556 (.ref 176), hDs P "is_string" 563 (.ref 183), hDs P "is_made_of" 569 (.ref 188), hDs P "is_tuple_of" 577 (.ref 195), hDs P "words_of" 585 (.ref 202), hDs P "number_in" 594 (.ref 209), hDs P "ONE" 597 (.ref 210), hDs P "lowest" 606 (.ref 217), hDs P "less_by" 614 (.ref 224), hDs P "times" 622 (.ref 231), hDs P "MOST_MARKS" 626 (.int 3 625), hDs P "MOST_NUMBER" 628 (.int 99 627), hDs P "LENGTHS" 638 (.ref 232), hDs P "is_marks" 645 (.ref 239), hDs P "check_marks" 652 (.ref 246), hDs P "is_mark" 660 (.ref 253), hDs P "is_row" 666 (.ref 258), hDs P "rows_by" 672 (.ref 263), hDs P "index_of" 681 (.ref 270), hDs P "join_of" 687 (.ref 275), hDs P "meet_of" 693 (.ref 280), hDs P "with_changed" 701 (.ref 287), hDs P "lots_by" 707 (.ref 292), hDs P "is_rising_by" 717 (.ref 299), hDs P "rising_by" 723 (.ref 304), hDs P "marks_of" 730 (.ref 311), hDs P "total_by" 737 (.ref 318), hDs P "number_at" 745 (.ref 325), hDs P "share_by" 751 (.ref 330), hDs P "bar_by" 759 (.ref 335), hDs P "helps_by" 766 (.ref 342), hDs P "is_right_pair" 776 (.ref 349), hDs P "wrong_by" 782 (.ref 354), hDs P "is_even_by" 789 (.ref 361), hDs P "chances_by" 795 (.ref 366), hDs P "made_share" 806 (.ref 373), hDs P "is_made_at" 814 (.ref 380), hDs P "unmade_by" 820 (.ref 385), hDs P "are_alone_by" 827 (.ref 392), hDs P "SIGNS" 831 (.str "01" 830), hDs P "row_in" 837 (.ref 397), hDs P "SIZES" 846 (.ref 398), hDs P "FULL" 848 (.str "full" 847), hDs P "NONE_tallies" 850 (.str "none" 849), hDs P "LAST" 852 (.str "last" 851), hDs P "HINDERS" 854 (.str "hinders" 853), hDs P "has_form" 861 (.ref 405), hDs P "check_deed" 869 (.ref 412), hDs P "with_more" 879 (.ref 419), hDs P "reason_against" 888 (.ref 426), hDs P "Tally" 956 (.ref 474), hDs P "check_tally" 963 (.ref 485), hDs P "copy_of" 972 (.ref 492), hDs P "LOST" 976 (.str "not understood" 975), hDs P "DONE" 978 (.str "done" 977), hDs P "NONE_consoles" 980 (.str "none" 979), hDs P "NOTHING" 982 (.str "nothing" 981), hDs P "YES" 984 (.str "yes" 983), hDs P "NO" 986 (.str "no" 985), hDs P "said_of_deed" 995 (.ref 499), hDs P "said_of_undo" 1002 (.ref 506), hDs P "said_of_chance" 1012 (.ref 513), hDs P "said_of_two" 1023 (.ref 520), hDs P "said_of_word" 1031 (.ref 527)] 83)),
  (40, hOb (.none) (.fields #[.int 3 0, .int 0 0, .ref 48, .int 5 0, .int 0 0, .ref 61, .int 9 0, .int 0 0, .ref 80, .int 13 0, .int 0 0, .ref 99, .int 17 0, .int 0 0, .ref 118, .int 21 0, .int 0 0, .ref 137, .int 25 0, .int 0 0, .ref 156, .int 29 0, .int 0 0, .ref 168, .int 31 0, .int 0 0, .ref 175, .int 33 0, .int 0 0, .ref 182, .int 35 0, .int 0 0, .ref 187, .int 37 0, .int 0 0, .ref 194, .int 39 0, .int 0 0, .ref 201, .int 42 0, .int 0 0, .ref 208, .int 50 0, .int 0 0, .ref 216, .int 53 0, .int 0 0, .ref 223, .int 55 0, .int 0 0, .ref 230, .int 61 0, .int 0 0, .ref 238, .int 63 0, .int 0 0, .ref 245, .int 66 0, .int 0 0, .ref 252, .int 68 0, .int 0 0, .ref 257, .int 70 0, .int 0 0, .ref 262, .int 75 0, .int 0 0, .ref 269, .int 80 0, .int 0 0, .ref 274, .int 82 0, .int 0 0, .ref 279, .int 84 0, .int 0 0, .ref 286, .int 86 0, .int 0 0, .ref 291, .int 91 0, .int 0 0, .ref 298, .int 97 0, .int 0 0, .ref 303, .int 99 0, .int 0 0, .ref 310, .int 101 0, .int 0 0, .ref 317, .int 103 0, .int 0 0, .ref 324, .int 105 0, .int 0 0, .ref 329, .int 108 0, .int 0 0, .ref 334, .int 117 0, .int 0 0, .ref 341, .int 119 0, .int 0 0, .ref 348, .int 122 0, .int 0 0, .ref 353, .int 126 0, .int 0 0, .ref 360, .int 128 0, .int 0 0, .ref 365, .int 132 0, .int 0 0, .ref 372, .int 137 0, .int 0 0, .ref 379, .int 139 0, .int 0 0, .ref 384, .int 142 0, .int 0 0, .ref 391, .int 146 0, .int 0 0, .ref 396, .int 157 0, .int 0 0, .ref 404, .int 161 0, .int 0 0, .ref 411, .int 166 0, .int 0 0, .ref 418, .int 169 0, .int 0 0, .ref 425, .int 180 0, .int 0 0, .ref 432, .int 212 0, .int 0 0, .ref 484, .int 215 0, .int 0 0, .ref 491, .int 227 0, .int 0 0, .ref 498, .int 235 0, .int 0 0, .ref 505, .int 241 0, .int 0 0, .ref 512, .int 246 0, .int 0 0, .ref 519, .int 254 0, .int 0 0, .ref 526])),
  (326, hOb (.type "tuple") (.seq #[] 0)),
  (327, hOb (.none) (.fields #[])),
  (328, hOb (.none) (hFd "share_by" "share_by" (hTp 41) 0 (.none) (.none) (.none) (.none) none (.none) (.none) 0)),
  (329, hOb (.type "code") (.fields #[.str "share_by" 746, .str "share_by" 747, .str "/claim/cut.py" 748, .int 105 0, .int 2 0, .int 0 0, .int 0 0, .int 3 0, .ref 326, .bool true, .int 370 0, .ref 327, .none, .none, .none, .ref 328, .int 749 0, .int 105 0, .str "/claim/cut.py" 750])),
  (330, hOb (.type "function") (hFd "share_by" "share_by" (hTp 41) 3 (.none) (.none) (.none) (.str "helpingmarks.rows" 623) none (.ref 329) (.none) 0)),
  (331, hOb (.type "tuple") (.seq #[] 0)),
  (332, hOb (.none) (.fields #[])),
  (333, hOb (.none) (hFd "bar_by" "bar_by" (hTp 43) 0 (.none) (.none) (.none) (.none) none (.none) (.none) 0)),
  (334, hOb (.type "code") (.fields #[.str "bar_by" 754, .str "bar_by" 755, .str "/claim/cut.py" 756, .int 108 0, .int 1 0, .int 0 0, .int 0 0, .int 3 0, .ref 331, .bool true, .int 370 0, .ref 332, .none, .none, .none, .ref 333, .int 757 0, .int 108 0, .str "/claim/cut.py" 758])),
  (335, hOb (.type "function") (hFd "bar_by" "bar_by" (hTp 43) 3 (.none) (.none) (.none) (.str "helpingmarks.helping" 752) none (.ref 334) (.none) 0)),
  (336, hOb (.type "tuple") (.seq #[] 0)),
  (337, hOb (.none) (.fields #[])),
  (338, hOb (.type "tuple") (.seq #[.str "table" 763] 0)),
  (339, hOb (.type "tuple") (.seq #[] 0)),
  (340, hOb (.none) (hFd "helps_by" "helps_by" (hTp 44) 0 (.none) (.none) (.none) (.none) none (.none) (.none) 0)),
  (341, hOb (.type "code") (.fields #[.str "helps_by" 760, .str "helps_by" 761, .str "/claim/cut.py" 762, .int 117 0, .int 1 0, .int 0 0, .int 0 0, .int 3 0, .ref 336, .bool true, .int 370 0, .ref 337, .none, .ref 338, .ref 339, .ref 340, .int 764 0, .int 117 0, .str "/claim/cut.py" 765])),
  (342, hOb (.type "function") (hFd "helps_by" "helps_by" (hTp 44) 3 (.none) (.none) (.none) (.str "helpingmarks.helping" 752) none (.ref 341) (.none) 0)),
  (343, hOb (.type "tuple") (.seq #[] 0)),
  (344, hOb (.none) (.fields #[])),
  (345, hOb (.type "tuple") (.seq #[.str "table" 770, .str "row" 771, .str "other" 772, .str "due" 773] 0)),
  (346, hOb (.type "tuple") (.seq #[] 0)),
  (347, hOb (.none) (hFd "is_right_pair" "is_right_pair" (hTp 45) 0 (.none) (.none) (.none) (.none) none (.none) (.none) 0)),
  (348, hOb (.type "code") (.fields #[.str "is_right_pair" 767, .str "is_right_pair" 768, .str "/claim/cut.py" 769, .int 119 0, .int 3 0, .int 0 0, .int 0 0, .int 3 0, .ref 343, .bool true, .int 370 0, .ref 344, .none, .ref 345, .ref 346, .ref 347, .int 774 0, .int 119 0, .str "/claim/cut.py" 775])),
  (349, hOb (.type "function") (hFd "is_right_pair" "is_right_pair" (hTp 45) 3 (.none) (.none) (.none) (.str "helpingmarks.helping" 752) none (.ref 348) (.none) 0)),
  (350, hOb (.type "tuple") (.seq #[] 0)),
  (351, hOb (.none) (.fields #[])),
  (352, hOb (.none) (hFd "wrong_by" "wrong_by" (hTp 46) 0 (.none) (.none) (.none) (.none) none (.none) (.none) 0)),
  (353, hOb (.type "code") (.fields #[.str "wrong_by" 777, .str "wrong_by" 778, .str "/claim/cut.py" 779, .int 122 0, .int 1 0, .int 0 0, .int 0 0, .int 3 0, .ref 350, .bool true, .int 370 0, .ref 351, .none, .none, .none, .ref 352, .int 780 0, .int 122 0, .str "/claim/cut.py" 781])),
  (354, hOb (.type "function") (hFd "wrong_by" "wrong_by" (hTp 46) 3 (.none) (.none) (.none) (.str "helpingmarks.helping" 752) none (.ref 353) (.none) 0)),
  (355, hOb (.type "tuple") (.seq #[] 0)),
  (356, hOb (.none) (.fields #[])),
  (357, hOb (.type "tuple") (.seq #[.str "table" 786] 0)),
  (358, hOb (.type "tuple") (.seq #[] 0)),
  (359, hOb (.none) (hFd "is_even_by" "is_even_by" (hTp 47) 0 (.none) (.none) (.none) (.none) none (.none) (.none) 0)),
  (360, hOb (.type "code") (.fields #[.str "is_even_by" 783, .str "is_even_by" 784, .str "/claim/cut.py" 785, .int 126 0, .int 1 0, .int 0 0, .int 0 0, .int 3 0, .ref 355, .bool true, .int 370 0, .ref 356, .none, .ref 357, .ref 358, .ref 359, .int 787 0, .int 126 0, .str "/claim/cut.py" 788])),
  (361, hOb (.type "function") (hFd "is_even_by" "is_even_by" (hTp 47) 3 (.none) (.none) (.none) (.str "helpingmarks.helping" 752) none (.ref 360) (.none) 0)),
  (362, hOb (.type "tuple") (.seq #[] 0)),
  (363, hOb (.none) (.fields #[]))]
def oL80_1 (P : Params) : List (Nat × Obj) := [
  (364, hOb (.none) (hFd "chances_by" "chances_by" (hTp 48) 0 (.none) (.none) (.none) (.none) none (.none) (.none) 0)),
  (365, hOb (.type "code") (.fields #[.str "chances_by" 790, .str "chances_by" 791, .str "/claim/cut.py" 792, .int 128 0, .int 1 0, .int 0 0, .int 0 0, .int 3 0, .ref 362, .bool true, .int 370 0, .ref 363, .none, .none, .none, .ref 364, .int 793 0, .int 128 0, .str "/claim/cut.py" 794])),
  (366, hOb (.type "function") (hFd "chances_by" "chances_by" (hTp 48) 3 (.none) (.none) (.none) (.str "helpingmarks.helping" 752) none (.ref 365) (.none) 0)),
  (367, hOb (.type "tuple") (.seq #[] 0)),
  (368, hOb (.none) (.fields #[])),
  (369, hOb (.type "tuple") (.seq #[.str "told_chances" 799, .str "row" 800, .str "found" 801, .str "own" 802, .str "there" 803] 0)),
  (370, hOb (.type "tuple") (.seq #[] 0)),
  (371, hOb (.none) (hFd "made_share" "made_share" (hTp 49) 0 (.none) (.none) (.none) (.none) none (.none) (.none) 0)),
  (372, hOb (.type "code") (.fields #[.str "made_share" 796, .str "made_share" 797, .str "/claim/cut.py" 798, .int 132 0, .int 2 0, .int 0 0, .int 0 0, .int 3 0, .ref 367, .bool true, .int 370 0, .ref 368, .none, .ref 369, .ref 370, .ref 371, .int 804 0, .int 132 0, .str "/claim/cut.py" 805])),
  (373, hOb (.type "function") (hFd "made_share" "made_share" (hTp 49) 3 (.none) (.none) (.none) (.str "helpingmarks.helping" 752) none (.ref 372) (.none) 0)),
  (374, hOb (.type "tuple") (.seq #[] 0)),
  (375, hOb (.none) (.fields #[])),
  (376, hOb (.type "tuple") (.seq #[.str "table" 810, .str "row" 811] 0)),
  (377, hOb (.type "tuple") (.seq #[] 0)),
  (378, hOb (.none) (hFd "is_made_at" "is_made_at" (hTp 50) 0 (.none) (.none) (.none) (.none) none (.none) (.none) 0)),
  (379, hOb (.type "code") (.fields #[.str "is_made_at" 807, .str "is_made_at" 808, .str "/claim/cut.py" 809, .int 137 0, .int 2 0, .int 0 0, .int 0 0, .int 3 0, .ref 374, .bool true, .int 370 0, .ref 375, .none, .ref 376, .ref 377, .ref 378, .int 812 0, .int 137 0, .str "/claim/cut.py" 813])),
  (380, hOb (.type "function") (hFd "is_made_at" "is_made_at" (hTp 50) 3 (.none) (.none) (.none) (.str "helpingmarks.helping" 752) none (.ref 379) (.none) 0)),
  (381, hOb (.type "tuple") (.seq #[] 0)),
  (382, hOb (.none) (.fields #[])),
  (383, hOb (.none) (hFd "unmade_by" "unmade_by" (hTp 51) 0 (.none) (.none) (.none) (.none) none (.none) (.none) 0)),
  (384, hOb (.type "code") (.fields #[.str "unmade_by" 815, .str "unmade_by" 816, .str "/claim/cut.py" 817, .int 139 0, .int 1 0, .int 0 0, .int 0 0, .int 3 0, .ref 381, .bool true, .int 370 0, .ref 382, .none, .none, .none, .ref 383, .int 818 0, .int 139 0, .str "/claim/cut.py" 819])),
  (385, hOb (.type "function") (hFd "unmade_by" "unmade_by" (hTp 51) 3 (.none) (.none) (.none) (.str "helpingmarks.helping" 752) none (.ref 384) (.none) 0)),
  (386, hOb (.type "tuple") (.seq #[] 0)),
  (387, hOb (.none) (.fields #[])),
  (388, hOb (.type "tuple") (.seq #[.str "table" 824] 0)),
  (389, hOb (.type "tuple") (.seq #[] 0)),
  (390, hOb (.none) (hFd "are_alone_by" "are_alone_by" (hTp 52) 0 (.none) (.none) (.none) (.none) none (.none) (.none) 0)),
  (391, hOb (.type "code") (.fields #[.str "are_alone_by" 821, .str "are_alone_by" 822, .str "/claim/cut.py" 823, .int 142 0, .int 1 0, .int 0 0, .int 0 0, .int 3 0, .ref 386, .bool true, .int 370 0, .ref 387, .none, .ref 388, .ref 389, .ref 390, .int 825 0, .int 142 0, .str "/claim/cut.py" 826])),
  (392, hOb (.type "function") (hFd "are_alone_by" "are_alone_by" (hTp 52) 3 (.none) (.none) (.none) (.str "helpingmarks.helping" 752) none (.ref 391) (.none) 0)),
  (393, hOb (.type "tuple") (.seq #[] 0)),
  (394, hOb (.none) (.fields #[])),
  (395, hOb (.none) (hFd "row_in" "row_in" (hTp 55) 0 (.none) (.none) (.none) (.none) none (.none) (.none) 0)),
  (396, hOb (.type "code") (.fields #[.str "row_in" 832, .str "row_in" 833, .str "/claim/cut.py" 834, .int 146 0, .int 2 0, .int 0 0, .int 0 0, .int 3 0, .ref 393, .bool true, .int 370 0, .ref 394, .none, .none, .none, .ref 395, .int 835 0, .int 146 0, .str "/claim/cut.py" 836])),
  (397, hOb (.type "function") (hFd "row_in" "row_in" (hTp 55) 3 (.none) (.none) (.none) (.str "helpingmarks.tabletexts" 828) none (.ref 396) (.none) 0)),
  (398, hOb (.type "dict") (.dict #[hDs P "count" 840 (.int 2 841), hDs P "drop" 842 (.int 2 843)] 2)),
  (399, hOb (.type "tuple") (.seq #[] 0)),
  (400, hOb (.none) (.fields #[])),
  (401, hOb (.type "tuple") (.seq #[.str "value" 858] 0)),
  (402, hOb (.type "tuple") (.seq #[] 0)),
  (403, hOb (.none) (hFd "has_form" "has_form" (hTp 62) 0 (.none) (.none) (.none) (.none) none (.none) (.none) 0))]
def oL80_2 (P : Params) : List (Nat × Obj) := [
  (404, hOb (.type "code") (.fields #[.str "has_form" 855, .str "has_form" 856, .str "/claim/cut.py" 857, .int 157 0, .int 1 0, .int 0 0, .int 0 0, .int 3 0, .ref 399, .bool true, .int 370 0, .ref 400, .none, .ref 401, .ref 402, .ref 403, .int 859 0, .int 157 0, .str "/claim/cut.py" 860])),
  (405, hOb (.type "function") (hFd "has_form" "has_form" (hTp 62) 3 (.none) (.none) (.none) (.str "helpingmarks.tallies" 838) none (.ref 404) (.none) 0)),
  (406, hOb (.type "tuple") (.seq #[] 0)),
  (407, hOb (.none) (.fields #[])),
  (408, hOb (.type "tuple") (.seq #[.str "marks" 865, .str "value" 866] 0)),
  (409, hOb (.type "tuple") (.seq #[] 0)),
  (410, hOb (.none) (hFd "check_deed" "check_deed" (hTp 63) 0 (.none) (.none) (.none) (.none) none (.none) (.none) 0)),
  (411, hOb (.type "code") (.fields #[.str "check_deed" 862, .str "check_deed" 863, .str "/claim/cut.py" 864, .int 161 0, .int 2 0, .int 0 0, .int 0 0, .int 3 0, .ref 406, .bool true, .int 370 0, .ref 407, .none, .ref 408, .ref 409, .ref 410, .int 867 0, .int 161 0, .str "/claim/cut.py" 868])),
  (412, hOb (.type "function") (hFd "check_deed" "check_deed" (hTp 63) 3 (.none) (.none) (.none) (.str "helpingmarks.tallies" 838) none (.ref 411) (.none) 0)),
  (413, hOb (.type "tuple") (.seq #[] 0)),
  (414, hOb (.none) (.fields #[])),
  (415, hOb (.type "tuple") (.seq #[.str "table" 873, .str "row" 874, .str "more" 875, .str "at" 876] 0)),
  (416, hOb (.type "tuple") (.seq #[] 0)),
  (417, hOb (.none) (hFd "with_more" "with_more" (hTp 64) 0 (.none) (.none) (.none) (.none) none (.none) (.none) 0)),
  (418, hOb (.type "code") (.fields #[.str "with_more" 870, .str "with_more" 871, .str "/claim/cut.py" 872, .int 166 0, .int 3 0, .int 0 0, .int 0 0, .int 3 0, .ref 413, .bool true, .int 370 0, .ref 414, .none, .ref 415, .ref 416, .ref 417, .int 877 0, .int 166 0, .str "/claim/cut.py" 878])),
  (419, hOb (.type "function") (hFd "with_more" "with_more" (hTp 64) 3 (.none) (.none) (.none) (.str "helpingmarks.tallies" 838) none (.ref 418) (.none) 0)),
  (420, hOb (.type "tuple") (.seq #[] 0)),
  (421, hOb (.none) (.fields #[])),
  (422, hOb (.type "tuple") (.seq #[.str "table" 883, .str "deed" 884, .str "number" 885] 0)),
  (423, hOb (.type "tuple") (.seq #[] 0)),
  (424, hOb (.none) (hFd "reason_against" "reason_against" (hTp 65) 0 (.none) (.none) (.none) (.none) none (.none) (.none) 0)),
  (425, hOb (.type "code") (.fields #[.str "reason_against" 880, .str "reason_against" 881, .str "/claim/cut.py" 882, .int 169 0, .int 2 0, .int 0 0, .int 0 0, .int 3 0, .ref 420, .bool true, .int 370 0, .ref 421, .none, .ref 422, .ref 423, .ref 424, .int 886 0, .int 169 0, .str "/claim/cut.py" 887])),
  (426, hOb (.type "function") (hFd "reason_against" "reason_against" (hTp 65) 3 (.none) (.none) (.none) (.str "helpingmarks.tallies" 838) none (.ref 425) (.none) 0)),
  (427, hOb (.type "tuple") (.seq #[] 0)),
  (428, hOb (.type "builtin_function_or_method") (.fields #[.builtin "type.__prepare__", .type "type"])),
  (429, hOb (.type "dict") (.dict #[hDs P "__module__" 896 (.str "helpingmarks.tallies" 838), hDs P "__qualname__" 898 (.str "Tally" 897), hDs P "__firstlineno__" 900 (.int 180 899), hDs P "__init__" 906 (.ref 438), hDs P "do" 915 (.ref 445), hDs P "undo" 922 (.ref 452), hDs P "may_come" 928 (.ref 457), hDs P "is_even" 935 (.ref 464), hDs P "__eq__" 943 (.ref 471), hDs P "__static_attributes__" 948 (.ref 472)] 10)),
  (430, hOb (.type "tuple") (.seq #[] 0)),
  (431, hOb (.none) (.fields #[.int 182 0, .int 4 0, .ref 437, .int 189 0, .int 4 0, .ref 444, .int 198 0, .int 4 0, .ref 451, .int 204 0, .int 4 0, .ref 456, .int 207 0, .int 4 0, .ref 463, .int 210 0, .int 4 0, .ref 470])),
  (432, hOb (.type "code") (.fields #[.str "Tally" 891, .str "Tally" 892, .str "/claim/cut.py" 893, .int 180 0, .int 0 0, .int 0 0, .int 0 0, .int 0 0, .ref 430, .bool false, .int 370 0, .ref 431, .none, .none, .none, .none, .int 894 0, .int 180 0, .str "/claim/cut.py" 895])),
  (433, ⟨.type "frame", none, .plain, #[some (.ref 432), some (.ref 3), some (.ref 429), none, some (.str "helpingmarks.tallies" 838), none, some (.ref 0)]⟩),
  (434, hOb (.type "tuple") (.seq #[] 0)),
  (435, hOb (.none) (.fields #[])),
  (436, hOb (.none) (hFd "__init__" "Tally.__init__" (hMm (hTp 66) 0) 0 (.none) (.none) (.none) (.none) none (.none) (.none) 0)),
  (437, hOb (.type "code") (.fields #[.str "__init__" 901, .str "Tally.__init__" 902, .str "/claim/cut.py" 903, .int 182 0, .int 2 0, .int 0 0, .int 0 0, .int 3 0, .ref 434, .bool true, .int 370 0, .ref 435, .none, .none, .none, .ref 436, .int 904 0, .int 182 0, .str "/claim/cut.py" 905])),
  (438, hOb (.type "function") (hFd "__init__" "Tally.__init__" (hMm (hTp 66) 0) 3 (.none) (.none) (.none) (.str "helpingmarks.tallies" 838) none (.ref 437) (.none) 0)),
  (439, hOb (.type "tuple") (.seq #[] 0)),
  (440, hOb (.none) (.fields #[])),
  (441, hOb (.type "tuple") (.seq #[.str "self" 910, .str "deed" 911, .str "reason" 912] 0)),
  (442, hOb (.type "tuple") (.seq #[] 0)),
  (443, hOb (.none) (hFd "do" "Tally.do" (hMm (hTp 66) 1) 0 (.none) (.none) (.none) (.none) none (.none) (.none) 0))]
def oL80_3 (P : Params) : List (Nat × Obj) := [
  (444, hOb (.type "code") (.fields #[.str "do" 907, .str "Tally.do" 908, .str "/claim/cut.py" 909, .int 189 0, .int 2 0, .int 0 0, .int 0 0, .int 3 0, .ref 439, .bool true, .int 370 0, .ref 440, .none, .ref 441, .ref 442, .ref 443, .int 913 0, .int 189 0, .str "/claim/cut.py" 914])),
  (445, hOb (.type "function") (hFd "do" "Tally.do" (hMm (hTp 66) 1) 3 (.none) (.none) (.none) (.str "helpingmarks.tallies" 838) none (.ref 444) (.none) 0)),
  (446, hOb (.type "tuple") (.seq #[] 0)),
  (447, hOb (.none) (.fields #[])),
  (448, hOb (.type "tuple") (.seq #[.str "self" 919] 0)),
  (449, hOb (.type "tuple") (.seq #[] 0)),
  (450, hOb (.none) (hFd "undo" "Tally.undo" (hMm (hTp 66) 2) 0 (.none) (.none) (.none) (.none) none (.none) (.none) 0)),
  (451, hOb (.type "code") (.fields #[.str "undo" 916, .str "Tally.undo" 917, .str "/claim/cut.py" 918, .int 198 0, .int 1 0, .int 0 0, .int 0 0, .int 3 0, .ref 446, .bool true, .int 370 0, .ref 447, .none, .ref 448, .ref 449, .ref 450, .int 920 0, .int 198 0, .str "/claim/cut.py" 921])),
  (452, hOb (.type "function") (hFd "undo" "Tally.undo" (hMm (hTp 66) 2) 3 (.none) (.none) (.none) (.str "helpingmarks.tallies" 838) none (.ref 451) (.none) 0)),
  (453, hOb (.type "tuple") (.seq #[] 0)),
  (454, hOb (.none) (.fields #[])),
  (455, hOb (.none) (hFd "may_come" "Tally.may_come" (hMm (hTp 66) 3) 0 (.none) (.none) (.none) (.none) none (.none) (.none) 0)),
  (456, hOb (.type "code") (.fields #[.str "may_come" 923, .str "Tally.may_come" 924, .str "/claim/cut.py" 925, .int 204 0, .int 1 0, .int 0 0, .int 0 0, .int 3 0, .ref 453, .bool true, .int 370 0, .ref 454, .none, .none, .none, .ref 455, .int 926 0, .int 204 0, .str "/claim/cut.py" 927])),
  (457, hOb (.type "function") (hFd "may_come" "Tally.may_come" (hMm (hTp 66) 3) 3 (.none) (.none) (.none) (.str "helpingmarks.tallies" 838) none (.ref 456) (.none) 0)),
  (458, hOb (.type "tuple") (.seq #[] 0)),
  (459, hOb (.none) (.fields #[])),
  (460, hOb (.type "tuple") (.seq #[.str "self" 932] 0)),
  (461, hOb (.type "tuple") (.seq #[] 0)),
  (462, hOb (.none) (hFd "is_even" "Tally.is_even" (hMm (hTp 66) 4) 0 (.none) (.none) (.none) (.none) none (.none) (.none) 0)),
  (463, hOb (.type "code") (.fields #[.str "is_even" 929, .str "Tally.is_even" 930, .str "/claim/cut.py" 931, .int 207 0, .int 1 0, .int 0 0, .int 0 0, .int 3 0, .ref 458, .bool true, .int 370 0, .ref 459, .none, .ref 460, .ref 461, .ref 462, .int 933 0, .int 207 0, .str "/claim/cut.py" 934])),
  (464, hOb (.type "function") (hFd "is_even" "Tally.is_even" (hMm (hTp 66) 4) 3 (.none) (.none) (.none) (.str "helpingmarks.tallies" 838) none (.ref 463) (.none) 0)),
  (465, hOb (.type "tuple") (.seq #[] 0)),
  (466, hOb (.none) (.fields #[])),
  (467, hOb (.type "tuple") (.seq #[.str "self" 939, .str "other" 940] 0)),
  (468, hOb (.type "tuple") (.seq #[] 0)),
  (469, hOb (.none) (hFd "__eq__" "Tally.__eq__" (hMm (hTp 66) 5) 0 (.none) (.none) (.none) (.none) none (.none) (.none) 0)),
  (470, hOb (.type "code") (.fields #[.str "__eq__" 936, .str "Tally.__eq__" 937, .str "/claim/cut.py" 938, .int 210 0, .int 2 0, .int 0 0, .int 0 0, .int 3 0, .ref 465, .bool true, .int 370 0, .ref 466, .none, .ref 467, .ref 468, .ref 469, .int 941 0, .int 210 0, .str "/claim/cut.py" 942])),
  (471, hOb (.type "function") (hFd "__eq__" "Tally.__eq__" (hMm (hTp 66) 5) 3 (.none) (.none) (.none) (.str "helpingmarks.tallies" 838) none (.ref 470) (.none) 0)),
  (472, hOb (.type "tuple") (.seq #[.str "deeds" 944, .str "marks" 945, .str "past" 946, .str "table" 947] 0)),
  (473, hOb (.type "dict") (.dict #[hDs P "__module__" 896 (.str "helpingmarks.tallies" 838), hDs P "__firstlineno__" 900 (.int 180 899), hDs P "__init__" 906 (.ref 438), hDs P "do" 915 (.ref 445), hDs P "undo" 922 (.ref 452), hDs P "may_come" 928 (.ref 457), hDs P "is_even" 935 (.ref 464), hDs P "__eq__" 943 (.ref 471), hDs P "__static_attributes__" 948 (.ref 472), hDs P "__dict__" 950 (.ref 475), hDs P "__weakref__" 952 (.ref 476), hDs P "__doc__" 953 (.none), hDs P "__hash__" 954 (.none)] 5)),
  (474, ⟨.type "type", none, (.cls ⟨"Tally", [.type "object"], [.ref 474, .type "object"], 473, "Tally", true, [], [], false, none, false⟩), #[none, none, some (.str "Tally" 889), some (.str "Tally" 897), some (.builtin "object.__new__"), some (.bool true)]⟩),
  (475, hOb (.type "getset_descriptor") (.fields #[.str "__dict__" 949, .ref 474, .builtin "function.__dict__", .builtin "function.__dict__#set"])),
  (476, hOb (.type "getset_descriptor") (.fields #[.str "__weakref__" 951, .ref 474, .builtin "ExceptionGroup.__weakref__", .none])),
  (477, hOb (.type "super") (.fields #[.ref 474, .ref 474, .ref 474])),
  (478, hOb (.type "builtin_function_or_method") (.fields #[.builtin "object.__init_subclass__", .ref 474])),
  (479, hOb (.type "tuple") (.seq #[] 0)),
  (480, hOb (.none) (.fields #[])),
  (481, hOb (.type "tuple") (.seq #[.str "value" 960] 0)),
  (482, hOb (.type "tuple") (.seq #[] 0)),
  (483, hOb (.none) (hFd "check_tally" "check_tally" (hTp 67) 0 (.none) (.none) (.none) (.none) none (.none) (.none) 0))]
def oL80_4 (P : Params) : List (Nat × Obj) := [
  (484, hOb (.type "code") (.fields #[.str "check_tally" 957, .str "check_tally" 958, .str "/claim/cut.py" 959, .int 212 0, .int 1 0, .int 0 0, .int 0 0, .int 3 0, .ref 479, .bool true, .int 370 0, .ref 480, .none, .ref 481, .ref 482, .ref 483, .int 961 0, .int 212 0, .str "/claim/cut.py" 962])),
  (485, hOb (.type "function") (hFd "check_tally" "check_tally" (hTp 67) 3 (.none) (.none) (.none) (.str "helpingmarks.tallies" 838) none (.ref 484) (.none) 0)),
  (486, hOb (.type "tuple") (.seq #[] 0)),
  (487, hOb (.none) (.fields #[])),
  (488, hOb (.type "tuple") (.seq #[.str "tally" 967, .str "found" 968, .str "deed" 969] 0)),
  (489, hOb (.type "tuple") (.seq #[] 0)),
  (490, hOb (.none) (hFd "copy_of" "copy_of" (hTp 68) 0 (.none) (.none) (.none) (.none) none (.none) (.none) 0)),
  (491, hOb (.type "code") (.fields #[.str "copy_of" 964, .str "copy_of" 965, .str "/claim/cut.py" 966, .int 215 0, .int 1 0, .int 0 0, .int 0 0, .int 3 0, .ref 486, .bool true, .int 370 0, .ref 487, .none, .ref 488, .ref 489, .ref 490, .int 970 0, .int 215 0, .str "/claim/cut.py" 971])),
  (492, hOb (.type "function") (hFd "copy_of" "copy_of" (hTp 68) 3 (.none) (.none) (.none) (.str "helpingmarks.tallies" 838) none (.ref 491) (.none) 0)),
  (493, hOb (.type "tuple") (.seq #[] 0)),
  (494, hOb (.none) (.fields #[])),
  (495, hOb (.type "tuple") (.seq #[.str "tally" 990, .str "deed" 991, .str "barred" 992] 0)),
  (496, hOb (.type "tuple") (.seq #[] 0)),
  (497, hOb (.none) (hFd "said_of_deed" "said_of_deed" (hTp 76) 0 (.none) (.none) (.none) (.none) none (.none) (.none) 0)),
  (498, hOb (.type "code") (.fields #[.str "said_of_deed" 987, .str "said_of_deed" 988, .str "/claim/cut.py" 989, .int 227 0, .int 2 0, .int 0 0, .int 0 0, .int 3 0, .ref 493, .bool true, .int 370 0, .ref 494, .none, .ref 495, .ref 496, .ref 497, .int 993 0, .int 227 0, .str "/claim/cut.py" 994])),
  (499, hOb (.type "function") (hFd "said_of_deed" "said_of_deed" (hTp 76) 3 (.none) (.none) (.none) (.str "helpingmarks.consoles" 973) none (.ref 498) (.none) 0)),
  (500, hOb (.type "tuple") (.seq #[] 0)),
  (501, hOb (.none) (.fields #[])),
  (502, hOb (.type "tuple") (.seq #[.str "tally" 999] 0)),
  (503, hOb (.type "tuple") (.seq #[] 0)),
  (504, hOb (.none) (hFd "said_of_undo" "said_of_undo" (hTp 77) 0 (.none) (.none) (.none) (.none) none (.none) (.none) 0)),
  (505, hOb (.type "code") (.fields #[.str "said_of_undo" 996, .str "said_of_undo" 997, .str "/claim/cut.py" 998, .int 235 0, .int 1 0, .int 0 0, .int 0 0, .int 3 0, .ref 500, .bool true, .int 370 0, .ref 501, .none, .ref 502, .ref 503, .ref 504, .int 1000 0, .int 235 0, .str "/claim/cut.py" 1001])),
  (506, hOb (.type "function") (hFd "said_of_undo" "said_of_undo" (hTp 77) 3 (.none) (.none) (.none) (.str "helpingmarks.consoles" 973) none (.ref 505) (.none) 0)),
  (507, hOb (.type "tuple") (.seq #[] 0)),
  (508, hOb (.none) (.fields #[])),
  (509, hOb (.type "tuple") (.seq #[.str "tally" 1006, .str "mark" 1007, .str "over" 1008, .str "under" 1009] 0)),
  (510, hOb (.type "tuple") (.seq #[] 0)),
  (511, hOb (.none) (hFd "said_of_chance" "said_of_chance" (hTp 78) 0 (.none) (.none) (.none) (.none) none (.none) (.none) 0)),
  (512, hOb (.type "code") (.fields #[.str "said_of_chance" 1003, .str "said_of_chance" 1004, .str "/claim/cut.py" 1005, .int 241 0, .int 2 0, .int 0 0, .int 0 0, .int 3 0, .ref 507, .bool true, .int 370 0, .ref 508, .none, .ref 509, .ref 510, .ref 511, .int 1010 0, .int 241 0, .str "/claim/cut.py" 1011])),
  (513, hOb (.type "function") (hFd "said_of_chance" "said_of_chance" (hTp 78) 3 (.none) (.none) (.none) (.str "helpingmarks.consoles" 973) none (.ref 512) (.none) 0)),
  (514, hOb (.type "tuple") (.seq #[] 0)),
  (515, hOb (.none) (.fields #[])),
  (516, hOb (.type "tuple") (.seq #[.str "tally" 1016, .str "word" 1017, .str "other" 1018, .str "row" 1019, .str "number" 1020] 0)),
  (517, hOb (.type "tuple") (.seq #[] 0)),
  (518, hOb (.none) (hFd "said_of_two" "said_of_two" (hTp 79) 0 (.none) (.none) (.none) (.none) none (.none) (.none) 0)),
  (519, hOb (.type "code") (.fields #[.str "said_of_two" 1013, .str "said_of_two" 1014, .str "/claim/cut.py" 1015, .int 246 0, .int 3 0, .int 0 0, .int 0 0, .int 3 0, .ref 514, .bool true, .int 370 0, .ref 515, .none, .ref 516, .ref 517, .ref 518, .int 1021 0, .int 246 0, .str "/claim/cut.py" 1022])),
  (520, hOb (.type "function") (hFd "said_of_two" "said_of_two" (hTp 79) 3 (.none) (.none) (.none) (.str "helpingmarks.consoles" 973) none (.ref 519) (.none) 0)),
  (521, hOb (.type "tuple") (.seq #[] 0)),
  (522, hOb (.none) (.fields #[])),
  (523, hOb (.type "tuple") (.seq #[.str "tally" 1027, .str "word" 1028] 0))]
def oL80_5 (P : Params) : List (Nat × Obj) := [
  (524, hOb (.type "tuple") (.seq #[] 0)),
  (525, hOb (.none) (hFd "said_of_word" "said_of_word" (hTp 80) 0 (.none) (.none) (.none) (.none) none (.none) (.none) 0)),
  (526, hOb (.type "code") (.fields #[.str "said_of_word" 1024, .str "said_of_word" 1025, .str "/claim/cut.py" 1026, .int 254 0, .int 2 0, .int 0 0, .int 0 0, .int 3 0, .ref 521, .bool true, .int 370 0, .ref 522, .none, .ref 523, .ref 524, .ref 525, .int 1029 0, .int 254 0, .str "/claim/cut.py" 1030])),
  (527, hOb (.type "function") (hFd "said_of_word" "said_of_word" (hTp 80) 3 (.none) (.none) (.none) (.str "helpingmarks.consoles" 973) none (.ref 526) (.none) 0))]
def sL80 : StT := ⟨fun w => (insAll (insAll (insAll (insAll (insAll (insAll (sL40.T w) (oL80_0 w.params)) (oL80_1 w.params)) (oL80_2 w.params)) (oL80_3 w.params)) (oL80_4 w.params)) (oL80_5 w.params)), 528, {}, {}, 1032⟩
def oL88_0 (P : Params) : List (Nat × Obj) := [
  (3, hOb (.type "dict") (.dict #[hDs P "__name__" 165 (.str "law_helpingmarks_k85_consoles_not_understood" 1070), hDs P "__doc__" 166 (.none), hDs P "__package__" 167 (.none), hDs P "__loader__" 168 (.builtin "__main__.__loader__#opaque"), hDs P "__spec__" 169 (.none), hDs P "__annotations__" 170 (.ref 6), hDs P "__builtins__" 171 (.ref 4), hDs P "__file__" 173 (.str "/claim/cut.py" 172), hDs P "__cached__" 174 (.none), hDs P "gcd" 369 (.builtin "math.gcd"), hDs P "MarkError" 395 (.ref 52), hDs P "InvalidNumber" 420 (.ref 72), hDs P "InvalidLine" 445 (.ref 91), hDs P "NotATally" 470 (.ref 110), hDs P "InvalidDeed" 495 (.ref 129), hDs P "Barred" 520 (.ref 148), hDs P "NothingToUndo" 536 (.ref 160), hDs P "FIGURES" 540 (.str "0123456789" 539), hDs P "is_whole" 547 (.ref 169), hDs P "is_between" 556 (.ref 176), hDs P "is_string" 563 (.ref 183), hDs P "is_made_of" 569 (.ref 188), hDs P "is_tuple_of" 577 (.ref 195), hDs P "words_of" 585 (.ref 202), hDs P "number_in" 594 (.ref 209), hDs P "ONE" 597 (.ref 210), hDs P "lowest" 606 (.ref 217), hDs P "less_by" 614 (.ref 224), hDs P "times" 622 (.ref 231), hDs P "MOST_MARKS" 626 (.int 3 625), hDs P "MOST_NUMBER" 628 (.int 99 627), hDs P "LENGTHS" 638 (.ref 232), hDs P "is_marks" 645 (.ref 239), hDs P "check_marks" 652 (.ref 246), hDs P "is_mark" 660 (.ref 253), hDs P "is_row" 666 (.ref 258), hDs P "rows_by" 672 (.ref 263), hDs P "index_of" 681 (.ref 270), hDs P "join_of" 687 (.ref 275), hDs P "meet_of" 693 (.ref 280), hDs P "with_changed" 701 (.ref 287), hDs P "lots_by" 707 (.ref 292), hDs P "is_rising_by" 717 (.ref 299), hDs P "rising_by" 723 (.ref 304), hDs P "marks_of" 730 (.ref 311), hDs P "total_by" 737 (.ref 318), hDs P "number_at" 745 (.ref 325), hDs P "share_by" 751 (.ref 330), hDs P "bar_by" 759 (.ref 335), hDs P "helps_by" 766 (.ref 342), hDs P "is_right_pair" 776 (.ref 349), hDs P "wrong_by" 782 (.ref 354), hDs P "is_even_by" 789 (.ref 361), hDs P "chances_by" 795 (.ref 366), hDs P "made_share" 806 (.ref 373), hDs P "is_made_at" 814 (.ref 380), hDs P "unmade_by" 820 (.ref 385), hDs P "are_alone_by" 827 (.ref 392), hDs P "SIGNS" 831 (.str "01" 830), hDs P "row_in" 837 (.ref 397), hDs P "SIZES" 846 (.ref 398), hDs P "FULL" 848 (.str "full" 847), hDs P "NONE_tallies" 850 (.str "none" 849), hDs P "LAST" 852 (.str "last" 851), hDs P "HINDERS" 854 (.str "hinders" 853), hDs P "has_form" 861 (.ref 405), hDs P "check_deed" 869 (.ref 412), hDs P "with_more" 879 (.ref 419), hDs P "reason_against" 888 (.ref 426), hDs P "Tally" 956 (.ref 474), hDs P "check_tally" 963 (.ref 485), hDs P "copy_of" 972 (.ref 492), hDs P "LOST" 976 (.str "not understood" 975), hDs P "DONE" 978 (.str "done" 977), hDs P "NONE_consoles" 980 (.str "none" 979), hDs P "NOTHING" 982 (.str "nothing" 981), hDs P "YES" 984 (.str "yes" 983), hDs P "NO" 986 (.str "no" 985), hDs P "said_of_deed" 995 (.ref 499), hDs P "said_of_undo" 1002 (.ref 506), hDs P "said_of_chance" 1012 (.ref 513), hDs P "said_of_two" 1023 (.ref 520), hDs P "said_of_word" 1031 (.ref 527), hDs P "Console" 1069 (.ref 551), hDs P "_law_pool" 1083 (.ref 562), hDs P "_law_take" 1093 (.ref 569), hDs P "_law_of" 1101 (.ref 576), hDs P "_law_refusal" 1110 (.ref 583), hDs P "_law_right" 1116 (.ref 588), hDs P "law" 1126 (.ref 595)] 90)),
  (40, hOb (.none) (.fields #[.int 3 0, .int 0 0, .ref 48, .int 5 0, .int 0 0, .ref 61, .int 9 0, .int 0 0, .ref 80, .int 13 0, .int 0 0, .ref 99, .int 17 0, .int 0 0, .ref 118, .int 21 0, .int 0 0, .ref 137, .int 25 0, .int 0 0, .ref 156, .int 29 0, .int 0 0, .ref 168, .int 31 0, .int 0 0, .ref 175, .int 33 0, .int 0 0, .ref 182, .int 35 0, .int 0 0, .ref 187, .int 37 0, .int 0 0, .ref 194, .int 39 0, .int 0 0, .ref 201, .int 42 0, .int 0 0, .ref 208, .int 50 0, .int 0 0, .ref 216, .int 53 0, .int 0 0, .ref 223, .int 55 0, .int 0 0, .ref 230, .int 61 0, .int 0 0, .ref 238, .int 63 0, .int 0 0, .ref 245, .int 66 0, .int 0 0, .ref 252, .int 68 0, .int 0 0, .ref 257, .int 70 0, .int 0 0, .ref 262, .int 75 0, .int 0 0, .ref 269, .int 80 0, .int 0 0, .ref 274, .int 82 0, .int 0 0, .ref 279, .int 84 0, .int 0 0, .ref 286, .int 86 0, .int 0 0, .ref 291, .int 91 0, .int 0 0, .ref 298, .int 97 0, .int 0 0, .ref 303, .int 99 0, .int 0 0, .ref 310, .int 101 0, .int 0 0, .ref 317, .int 103 0, .int 0 0, .ref 324, .int 105 0, .int 0 0, .ref 329, .int 108 0, .int 0 0, .ref 334, .int 117 0, .int 0 0, .ref 341, .int 119 0, .int 0 0, .ref 348, .int 122 0, .int 0 0, .ref 353, .int 126 0, .int 0 0, .ref 360, .int 128 0, .int 0 0, .ref 365, .int 132 0, .int 0 0, .ref 372, .int 137 0, .int 0 0, .ref 379, .int 139 0, .int 0 0, .ref 384, .int 142 0, .int 0 0, .ref 391, .int 146 0, .int 0 0, .ref 396, .int 157 0, .int 0 0, .ref 404, .int 161 0, .int 0 0, .ref 411, .int 166 0, .int 0 0, .ref 418, .int 169 0, .int 0 0, .ref 425, .int 180 0, .int 0 0, .ref 432, .int 212 0, .int 0 0, .ref 484, .int 215 0, .int 0 0, .ref 491, .int 227 0, .int 0 0, .ref 498, .int 235 0, .int 0 0, .ref 505, .int 241 0, .int 0 0, .ref 512, .int 246 0, .int 0 0, .ref 519, .int 254 0, .int 0 0, .ref 526, .int 264 0, .int 0 0, .ref 533, .int 278 0, .int 0 0, .ref 561, .int 284 0, .int 0 0, .ref 568, .int 292 0, .int 0 0, .ref 575, .int 294 0, .int 0 0, .ref 582, .int 305 0, .int 0 0, .ref 587, .int 327 0, .int 0 0, .ref 594])),
  (528, hOb (.type "tuple") (.seq #[] 0)),
  (529, hOb (.type "builtin_function_or_method") (.fields #[.builtin "type.__prepare__", .type "type"])),
  (530, hOb (.type "dict") (.dict #[hDs P "__module__" 1039 (.str "helpingmarks.consoles" 973), hDs P "__qualname__" 1041 (.str "Console" 1040), hDs P "__firstlineno__" 1043 (.int 264 1042), hDs P "__init__" 1051 (.ref 541), hDs P "say" 1060 (.ref 548), hDs P "__static_attributes__" 1062 (.ref 549)] 6)),
  (531, hOb (.type "tuple") (.seq #[] 0)),
  (532, hOb (.none) (.fields #[.int 266 0, .int 4 0, .ref 540, .int 270 0, .int 4 0, .ref 547])),
  (533, hOb (.type "code") (.fields #[.str "Console" 1034, .str "Console" 1035, .str "/claim/cut.py" 1036, .int 264 0, .int 0 0, .int 0 0, .int 0 0, .int 0 0, .ref 531, .bool false, .int 370 0, .ref 532, .none, .none, .none, .none, .int 1037 0, .int 264 0, .str "/claim/cut.py" 1038])),
  (534, ⟨.type "frame", none, .plain, #[some (.ref 533), some (.ref 3), some (.ref 530), none, some (.str "helpingmarks.consoles" 973), none, some (.ref 0)]⟩),
  (535, hOb (.type "tuple") (.seq #[] 0)),
  (536, hOb (.none) (.fields #[])),
  (537, hOb (.type "tuple") (.seq #[.str "self" 1047, .str "tally" 1048] 0)),
  (538, hOb (.type "tuple") (.seq #[] 0)),
  (539, hOb (.none) (hFd "__init__" "Console.__init__" (hMm (hTp 81) 0) 0 (.none) (.none) (.none) (.none) none (.none) (.none) 0)),
  (540, hOb (.type "code") (.fields #[.str "__init__" 1044, .str "Console.__init__" 1045, .str "/claim/cut.py" 1046, .int 266 0, .int 2 0, .int 0 0, .int 0 0, .int 3 0, .ref 535, .bool true, .int 370 0, .ref 536, .none, .ref 537, .ref 538, .ref 539, .int 1049 0, .int 266 0, .str "/claim/cut.py" 1050])),
  (541, hOb (.type "function") (hFd "__init__" "Console.__init__" (hMm (hTp 81) 0) 3 (.none) (.none) (.none) (.str "helpingmarks.consoles" 973) none (.ref 540) (.none) 0)),
  (542, hOb (.type "tuple") (.seq #[] 0)),
  (543, hOb (.none) (.fields #[])),
  (544, hOb (.type "tuple") (.seq #[.str "self" 1055, .str "line" 1056, .str "words" 1057] 0)),
  (545, hOb (.type "tuple") (.seq #[] 0)),
  (546, hOb (.none) (hFd "say" "Console.say" (hMm (hTp 81) 1) 0 (.none) (.none) (.none) (.none) none (.none) (.none) 0)),
  (547, hOb (.type "code") (.fields #[.str "say" 1052, .str "Console.say" 1053, .str "/claim/cut.py" 1054, .int 270 0, .int 2 0, .int 0 0, .int 0 0, .int 3 0, .ref 542, .bool true, .int 370 0, .ref 543, .none, .ref 544, .ref 545, .ref 546, .int 1058 0, .int 270 0, .str "/claim/cut.py" 1059])),
  (548, hOb (.type "function") (hFd "say" "Console.say" (hMm (hTp 81) 1) 3 (.none) (.none) (.none) (.str "helpingmarks.consoles" 973) none (.ref 547) (.none) 0)),
  (549, hOb (.type "tuple") (.seq #[.str "tally" 1061] 0)),
  (550, hOb (.type "dict") (.dict #[hDs P "__module__" 1039 (.str "helpingmarks.consoles" 973), hDs P "__firstlineno__" 1043 (.int 264 1042), hDs P "__init__" 1051 (.ref 541), hDs P "say" 1060 (.ref 548), hDs P "__static_attributes__" 1062 (.ref 549), hDs P "__dict__" 1064 (.ref 552), hDs P "__weakref__" 1066 (.ref 553), hDs P "__doc__" 1067 (.none)] 4)),
  (551, ⟨.type "type", none, (.cls ⟨"Console", [.type "object"], [.ref 551, .type "object"], 550, "Console", true, [], [], false, none, false⟩), #[none, none, some (.str "Console" 1032), some (.str "Console" 1040), some (.builtin "object.__new__"), some (.bool true)]⟩),
  (552, hOb (.type "getset_descriptor") (.fields #[.str "__dict__" 1063, .ref 551, .builtin "function.__dict__", .builtin "function.__dict__#set"])),
  (553, hOb (.type "getset_descriptor") (.fields #[.str "__weakref__" 1065, .ref 551, .builtin "ExceptionGroup.__weakref__", .none])),
  (554, hOb (.type "super") (.fields #[.ref 551, .ref 551, .ref 551])),
  (555, hOb (.type "builtin_function_or_method") (.fields #[.builtin "object.__init_subclass__", .ref 551])),
  (556, hOb (.type "tuple") (.seq #[] 0)),
  (557, hOb (.none) (.fields #[])),
  (558, hOb (.type "tuple") (.seq #[.str "script" 1075, .str "k" 1076, .str "cell" 1077, .str "mixed" 1078, .str "wide" 1079, .str "each" 1080] 0)),
  (559, hOb (.type "tuple") (.seq #[] 0)),
  (560, hOb (.none) (hFd "_law_pool" "_law_pool" (hTp 83) 0 (.none) (.none) (.none) (.none) none (.none) (.none) 0)),
  (561, hOb (.type "code") (.fields #[.str "_law_pool" 1072, .str "_law_pool" 1073, .str "/claim/cut.py" 1074, .int 278 0, .int 2 0, .int 0 0, .int 0 0, .int 3 0, .ref 556, .bool true, .int 370 0, .ref 557, .none, .ref 558, .ref 559, .ref 560, .int 1081 0, .int 278 0, .str "/claim/cut.py" 1082])),
  (562, hOb (.type "function") (hFd "_law_pool" "_law_pool" (hTp 83) 3 (.none) (.none) (.none) (.str "law_helpingmarks_k85_consoles_not_understood" 1070) none (.ref 561) (.none) 0)),
  (563, hOb (.type "tuple") (.seq #[] 0)),
  (564, hOb (.none) (.fields #[])),
  (565, hOb (.type "tuple") (.seq #[.str "pool" 1087, .str "many" 1088, .str "digit" 1089, .str "stirred" 1090] 0))]
def oL88_1 (P : Params) : List (Nat × Obj) := [
  (566, hOb (.type "tuple") (.seq #[] 0)),
  (567, hOb (.none) (hFd "_law_take" "_law_take" (hTp 84) 0 (.none) (.none) (.none) (.none) none (.none) (.none) 0)),
  (568, hOb (.type "code") (.fields #[.str "_law_take" 1084, .str "_law_take" 1085, .str "/claim/cut.py" 1086, .int 284 0, .int 2 0, .int 0 0, .int 0 0, .int 3 0, .ref 563, .bool true, .int 370 0, .ref 564, .none, .ref 565, .ref 566, .ref 567, .int 1091 0, .int 284 0, .str "/claim/cut.py" 1092])),
  (569, hOb (.type "function") (hFd "_law_take" "_law_take" (hTp 84) 3 (.none) (.none) (.none) (.str "law_helpingmarks_k85_consoles_not_understood" 1070) none (.ref 568) (.none) 0)),
  (570, hOb (.type "tuple") (.seq #[] 0)),
  (571, hOb (.none) (.fields #[])),
  (572, hOb (.type "tuple") (.seq #[.str "pool" 1097, .str "some" 1098] 0)),
  (573, hOb (.type "tuple") (.seq #[] 0)),
  (574, hOb (.none) (hFd "_law_of" "_law_of" (hTp 85) 0 (.none) (.none) (.none) (.none) none (.none) (.none) 0)),
  (575, hOb (.type "code") (.fields #[.str "_law_of" 1094, .str "_law_of" 1095, .str "/claim/cut.py" 1096, .int 292 0, .int 2 0, .int 0 0, .int 0 0, .int 3 0, .ref 570, .bool true, .int 370 0, .ref 571, .none, .ref 572, .ref 573, .ref 574, .int 1099 0, .int 292 0, .str "/claim/cut.py" 1100])),
  (576, hOb (.type "function") (hFd "_law_of" "_law_of" (hTp 85) 3 (.none) (.none) (.none) (.str "law_helpingmarks_k85_consoles_not_understood" 1070) none (.ref 575) (.none) 0)),
  (577, hOb (.type "tuple") (.seq #[] 0)),
  (578, hOb (.none) (.fields #[])),
  (579, hOb (.type "tuple") (.seq #[.str "call" 1105, .str "caught" 1106, .str "e" 1107] 0)),
  (580, hOb (.type "tuple") (.seq #[] 0)),
  (581, hOb (.none) (hFd "_law_refusal" "_law_refusal" (hTp 86) 0 (.none) (.none) (.none) (.none) none (.none) (.none) 0)),
  (582, hOb (.type "code") (.fields #[.str "_law_refusal" 1102, .str "_law_refusal" 1103, .str "/claim/cut.py" 1104, .int 294 0, .int 1 0, .int 0 0, .int 0 0, .int 3 0, .ref 577, .bool true, .int 370 0, .ref 578, .none, .ref 579, .ref 580, .ref 581, .int 1108 0, .int 294 0, .str "/claim/cut.py" 1109])),
  (583, hOb (.type "function") (hFd "_law_refusal" "_law_refusal" (hTp 86) 3 (.none) (.none) (.none) (.str "law_helpingmarks_k85_consoles_not_understood" 1070) none (.ref 582) (.none) 0)),
  (584, hOb (.type "tuple") (.seq #[] 0)),
  (585, hOb (.none) (.fields #[])),
  (586, hOb (.none) (hFd "_law_right" "_law_right" (hTp 87) 0 (.none) (.none) (.none) (.none) none (.none) (.none) 0)),
  (587, hOb (.type "code") (.fields #[.str "_law_right" 1111, .str "_law_right" 1112, .str "/claim/cut.py" 1113, .int 305 0, .int 2 0, .int 0 0, .int 0 0, .int 3 0, .ref 584, .bool true, .int 370 0, .ref 585, .none, .none, .none, .ref 586, .int 1114 0, .int 305 0, .str "/claim/cut.py" 1115])),
  (588, hOb (.type "function") (hFd "_law_right" "_law_right" (hTp 87) 3 (.none) (.none) (.none) (.str "law_helpingmarks_k85_consoles_not_understood" 1070) none (.ref 587) (.none) 0)),
  (589, hOb (.type "tuple") (.seq #[] 0)),
  (590, hOb (.none) (.fields #[])),
  (591, hOb (.type "tuple") (.seq #[.str "script" 1120, .str "k" 1121, .str "pool" 1122, .str "most" 1123] 0)),
  (592, hOb (.type "tuple") (.seq #[] 0)),
  (593, hOb (.none) (hFd "law" "law" (hTp 88) 0 (.none) (.none) (.none) (.none) none (.none) (.none) 0)),
  (594, hOb (.type "code") (.fields #[.str "law" 1117, .str "law" 1118, .str "/claim/cut.py" 1119, .int 327 0, .int 1 0, .int 0 0, .int 0 0, .int 3 0, .ref 589, .bool true, .int 370 0, .ref 590, .none, .ref 591, .ref 592, .ref 593, .int 1124 0, .int 327 0, .str "/claim/cut.py" 1125])),
  (595, hOb (.type "function") (hFd "law" "law" (hTp 88) 3 (.none) (.none) (.none) (.str "law_helpingmarks_k85_consoles_not_understood" 1070) none (.ref 594) (.none) 0))]
def sL88 : StT := ⟨fun w => (insAll (insAll (sL80.T w) (oL88_0 w.params)) (oL88_1 w.params)), 596, {}, {}, 1127⟩
abbrev bodyL : List Stmt := behindTheImports RL.prog
abbrev envL : Env := { scope := RL.prog.main.scope, locals := mainNs, globals := mainNs, cells := [], code := .ref 41, frame := some 42 }
def annL : Option Value := (some (.ref 6))
theorem openL (w : World) : asksO (openF (fun q => stepQ (denQ tabQ) q w) fenceQ 60000 RL.prog) = some (sL0.n, sL0.life, #[], sL0.drawn, sL0.toks) := by kernel_rfl
theorem treeL (w : World) : sL0.T w = treeO (openF (fun q => stepQ (denQ tabQ) q w) fenceQ 60000 RL.prog) := by kernel_rfl
theorem sizeL (w : World) : ((sL0.heap w).isNs mainGlobals && (#[] : Array GenState).size == 0, (sL0.heap w).nsMap mainGlobals "__annotations__") = (true, annL) := by kernel_rfl
theorem preL (w : World) (os : OsState) : preF (stepQ (denQ tabQ) RL.prog w) 39 annL 12 (sL0.at w os) (topStub RL.prog) = some (sLa.at w os, ⟨denQ tabQ (.body bodyL envL), .body bodyL envL, ⟨0, 0, 0, 0⟩, [topFrame ⟨0, 0, 0, 0⟩]⟩) := by kernel_rfl
theorem blkL (w : World) (os : OsState) : segF (stepQ (denQ tabQ) RL.prog w) 39 annL 1 (sLa.at w os) (blockOf bodyL envL (.body bodyL envL) ⟨0, 0, 0, 0⟩ [topFrame ⟨0, 0, 0, 0⟩]) = some (.next, sLa.at w os, .body bodyL envL, ⟨0, 0, 0, 0⟩) := by kernel_rfl
theorem goL0_false (w : World) (os : OsState) : segF (stepQ (denQ tabQ) RL.prog (w.withFollow "special-get-raises" false)) 39 annL 2462 (sLa.at (w.withFollow "special-get-raises" false) os) (piecesOf ((bodyL.drop 0).take 40) envL (.body bodyL envL) ⟨0, 0, 0, 0⟩ [topFrame ⟨0, 0, 0, 0⟩]) = some (.next, sL40.at (w.withFollow "special-get-raises" false) os, .body bodyL envL, ⟨103, 0, 104, 31⟩) := by kernel_rfl
theorem goL0_true (w : World) (os : OsState) : segF (stepQ (denQ tabQ) RL.prog (w.withFollow "special-get-raises" true)) 39 annL 2462 (sLa.at (w.withFollow "special-get-raises" true) os) (piecesOf ((bodyL.drop 0).take 40) envL (.body bodyL envL) ⟨0, 0, 0, 0⟩ [topFrame ⟨0, 0, 0, 0⟩]) = some (.next, sL40.at (w.withFollow "special-get-raises" true) os, .body bodyL envL, ⟨103, 0, 104, 31⟩) := by kernel_rfl
theorem goL0 : Leads RL.prog 39 annL envL (.body bodyL envL) ⟨0, 0, 0, 0⟩ 2462 sLa ⟨0, 0, 0, 0⟩ ((bodyL.drop 0).take 40) sL40 ⟨103, 0, 104, 31⟩ := fun w os =>
  byRow2 "special-get-raises" (P := fun w => segF (stepQ (denQ tabQ) RL.prog w) 39 annL 2462 (sLa.at w os) (piecesOf ((bodyL.drop 0).take 40) envL (.body bodyL envL) ⟨0, 0, 0, 0⟩ [topFrame ⟨0, 0, 0, 0⟩]) = some (.next, sL40.at w os, .body bodyL envL, ⟨103, 0, 104, 31⟩)) (fun w => goL0_false w os) (fun w => goL0_true w os) w
theorem goL1_false (w : World) (os : OsState) : segF (stepQ (denQ tabQ) RL.prog (w.withFollow "special-get-raises" false)) 39 annL 1233 (sL40.at (w.withFollow "special-get-raises" false) os) (piecesOf ((bodyL.drop 40).take 40) envL (.body bodyL envL) ⟨103, 0, 104, 31⟩ [topFrame ⟨0, 0, 0, 0⟩]) = some (.next, sL80.at (w.withFollow "special-get-raises" false) os, .body bodyL envL, ⟨254, 0, 263, 64⟩) := by kernel_rfl
theorem goL1_true (w : World) (os : OsState) : segF (stepQ (denQ tabQ) RL.prog (w.withFollow "special-get-raises" true)) 39 annL 1233 (sL40.at (w.withFollow "special-get-raises" true) os) (piecesOf ((bodyL.drop 40).take 40) envL (.body bodyL envL) ⟨103, 0, 104, 31⟩ [topFrame ⟨0, 0, 0, 0⟩]) = some (.next, sL80.at (w.withFollow "special-get-raises" true) os, .body bodyL envL, ⟨254, 0, 263, 64⟩) := by kernel_rfl
theorem goL1 : Leads RL.prog 39 annL envL (.body bodyL envL) ⟨0, 0, 0, 0⟩ 1233 sL40 ⟨103, 0, 104, 31⟩ ((bodyL.drop 40).take 40) sL80 ⟨254, 0, 263, 64⟩ := fun w os =>
  byRow2 "special-get-raises" (P := fun w => segF (stepQ (denQ tabQ) RL.prog w) 39 annL 1233 (sL40.at w os) (piecesOf ((bodyL.drop 40).take 40) envL (.body bodyL envL) ⟨103, 0, 104, 31⟩ [topFrame ⟨0, 0, 0, 0⟩]) = some (.next, sL80.at w os, .body bodyL envL, ⟨254, 0, 263, 64⟩)) (fun w => goL1_false w os) (fun w => goL1_true w os) w
theorem goL2 : Leads RL.prog 39 annL envL (.body bodyL envL) ⟨0, 0, 0, 0⟩ 450 sL80 ⟨254, 0, 263, 64⟩ ((bodyL.drop 80).take 8) sL88 ⟨327, 0, 333, 15⟩ := by
  intro w os
  kernel_rfl
theorem finL (w : World) (os : OsState) : goF (stepQ (denQ tabQ) RL.prog w) 39 annL 2 (sL88.at w os) ⟨doneF .next, .body bodyL envL, ⟨327, 0, 333, 15⟩, [topFrame ⟨0, 0, 0, 0⟩]⟩ = some (sL88.at w os) := by kernel_rfl
theorem restL : Rest RL.prog 39 annL envL (.body bodyL envL) ⟨0, 0, 0, 0⟩ (2462 + (1233 + (450 + (2)))) sLa ⟨0, 0, 0, 0⟩ bodyL sL88 :=
  Rest.cast (Rest.app goL0 (Rest.app goL1 (Rest.app goL2 (Rest.nil finL)))) (show bodyL = ((bodyL.drop 0).take 40) ++ (((bodyL.drop 40).take 40) ++ (((bodyL.drop 80).take 8) ++ ([]))) by kernel_rfl)
theorem looksL (w : World) (os : OsState) : looksF RL.prog (sL0.heap w) (sL88.at w os).abs = true := by kernel_rfl
theorem seenL (w : World) (os : OsState) : seenQ qL nsL (importedModules RL.prog.main.body) (fun s => xlAt qL [] s && recOk RL.toRowW.records s) (sL88.at w os).abs = openGood qL nsL := by kernel_rfl
abbrev sEnd : StT := sL88
theorem leftL {H : Hook} {o : SharedT → H.α} (ho : ∀ s : SharedT, o s = H.obs s.abs) (obs : ∀ (w : World) (os : OsState), o (sEnd.at w os) = H.val w) : LeftO RL.prog qL nsL (fun s => xlAt qL [] s && recOk RL.toRowW.records s) H.obs H.val 60000 true :=
  left_of treeL openL sizeL rfl preL blkL restL (by decide) ho looksL seenL obs
end PM
end

namespace PM
open PySem PySem.Spec PyProof.Rows L2

/-! ### values -/
inductive D where
  | non
  | bl (b : Bool)
  | int (i : Int)
  | str (x : Str)
  | tup (xs : List D)
  | lst (xs : List D)
  | scr (xs : List Int)
  | dic (ks : List (List Int)) (vs : List D)
  | ref (i : Nat)
  | exc (c f : Str) (v : D)
  | exb (c : Str)
  | dcs (k : Str) (v : D)
  deriving Inhabited

abbrev Frg := PySem.W.Frag

mutual
/-- d is what v stands for, by the frozen part G; ρ: where the mutable objects stand -/
inductive Rp (K : Frg) (ρ : List Addr) (G : Hp) : D → V → Prop
  | non : Rp K ρ G .non .non
  | bl (b : Bool) : Rp K ρ G (.bl b) (.bl b)
  | int (i : Int) : Rp K ρ G (.int i) (.int i)
  | str (x : Str) : Rp K ρ G (.str x) (.str x)
  | tup {a : Addr} {xs : List D} {vs : List V} : G a = some (.tup vs) → Rps K ρ G xs vs → Rp K ρ G (.tup xs) (.ref a)
  | lst {a : Addr} {xs : List D} {vs : List V} : G a = some (.lst vs) → Rps K ρ G xs vs → Rp K ρ G (.lst xs) (.ref a)
  | dic {a : Addr} {ks : List (List Int)} {ds : List D} {kvs : List (List L2.Key × V)} : G a = some (.dT kvs) → kvs.map (·.1) = ks.map (fun k => k.map Sum.inl) → Rps K ρ G ds (kvs.map (·.2)) → Rp K ρ G (.dic ks ds) (.ref a)
  | scr {a : Addr} {xs : List Int} : SqL K G a (xs.map V.int) → Rp K ρ G (.scr xs) (.ref a)
  | ref {a : Addr} {i : Nat} : ρ[i]? = some a → Rp K ρ G (.ref i) (.ref a)
  | exc {a dd : Addr} {c f : Str} {d : D} {v : V} : G a = some (exo a (He.ga K c) (some dd)) → G dd = some (exd dd [(f, v)]) → Rp K ρ G d v → Rp K ρ G (.exc c f d) (.ref a)
  | exb {a : Addr} {c : Str} : G a = some (exo a (He.ga K c) none) → Rp K ρ G (.exb c) (.ref a)
  | dcs {a : Addr} {k : Str} {d : D} {v : V} : G a = some (.dK [(Sum.inr k, v)]) → Rp K ρ G d v → Rp K ρ G (.dcs k d) (.ref a)
inductive Rps (K : Frg) (ρ : List Addr) (G : Hp) : List D → List V → Prop
  | nil : Rps K ρ G [] []
  | cons {d : D} {v : V} {ds : List D} {vs : List V} : Rp K ρ G d v → Rps K ρ G ds vs → Rps K ρ G (d :: ds) (v :: vs)
end

theorem Rd.mono {G G' : Hp} {a : Addr} {u : HO} (h : Same G G') (r : Rd G a u) : Rd G' a u := by
  rcases r with r | ⟨o, r⟩
  · exact .inl (h _ _ r)
  · exact .inr ⟨o, h _ _ r⟩
theorem SqT.mono {K : Frg} {G G' : Hp} {a : Addr} {xs : List V} (h : Same G G') (r : SqT K G a xs) : SqT K G' a xs := by
  rcases r with r | r
  · exact .inl (Rd.mono h r)
  · exact .inr r
theorem SqL.mono {K : Frg} {G G' : Hp} {a : Addr} {xs : List V} (h : Same G G') (r : SqL K G a xs) : SqL K G' a xs := by
  rcases r with r | r
  · exact .inl (Rd.mono h r)
  · exact .inr r

section
variable {K : Frg} {ρ ρ' : List Addr} {G G' : Hp}
mutual
theorem Rp.mono (h : Same G G') (hr : ∀ (i : Nat) a, ρ[i]? = some a → ρ'[i]? = some a) : ∀ {d : D} {v : V}, Rp K ρ G d v → Rp K ρ' G' d v
  | _, _, .non => .non
  | _, _, .bl b => .bl b
  | _, _, .int i => .int i
  | _, _, .str x => .str x
  | _, _, .tup s r => .tup (h _ _ s) (Rps.mono h hr r)
  | _, _, .dic s e r => .dic (h _ _ s) e (Rps.mono h hr r)
  | _, _, .lst s r => .lst (h _ _ s) (Rps.mono h hr r)
  | _, _, .scr s => .scr (SqL.mono h s)
  | _, _, .ref e => .ref (hr _ _ e)
  | _, _, .exc e1 e2 r => .exc (h _ _ e1) (h _ _ e2) (Rp.mono h hr r)
  | _, _, .exb e1 => .exb (h _ _ e1)
  | _, _, .dcs e1 r => .dcs (h _ _ e1) (Rp.mono h hr r)
theorem Rps.mono (h : Same G G') (hr : ∀ (i : Nat) a, ρ[i]? = some a → ρ'[i]? = some a) : ∀ {ds : List D} {vs : List V}, Rps K ρ G ds vs → Rps K ρ' G' ds vs
  | _, _, .nil => .nil
  | _, _, .cons a b => .cons (Rp.mono h hr a) (Rps.mono h hr b)
end
theorem Rps.length : ∀ {ds : List D} {vs : List V}, Rps K ρ G ds vs → ds.length = vs.length
  | _, _, .nil => rfl
  | _, _, .cons _ b => congrArg (· + 1) (Rps.length b)
theorem Rps.append : ∀ {ds : List D} {vs : List V} {es : List D} {ws : List V}, Rps K ρ G ds vs → Rps K ρ G es ws → Rps K ρ G (ds ++ es) (vs ++ ws)
  | _, _, _, _, .nil, s => s
  | _, _, _, _, .cons a b, s => .cons a (Rps.append b s)
theorem Rps.get : ∀ {ds : List D} {vs : List V} {i : Nat} {d : D}, Rps K ρ G ds vs → ds[i]? = some d → ∃ v, vs[i]? = some v ∧ Rp K ρ G d v
  | _, _, _, _, .nil, e => by simp at e
  | _, _, 0, _, .cons a _, e => by simp at e; subst e; exact ⟨_, rfl, a⟩
  | _, _, i + 1, _, .cons _ b, e => by
    obtain ⟨v, h1, h2⟩ := Rps.get (i := i) b (by simpa using e)
    exact ⟨v, by simpa using h1, h2⟩
theorem Rps.getV : ∀ {ds : List D} {vs : List V} {i : Nat} {v : V}, Rps K ρ G ds vs → vs[i]? = some v → ∃ d, ds[i]? = some d ∧ Rp K ρ G d v
  | _, _, _, _, .nil, e => by simp at e
  | _, _, 0, _, .cons a _, e => by simp at e; subst e; exact ⟨_, rfl, a⟩
  | _, _, i + 1, _, .cons _ b, e => by
    obtain ⟨v, h1, h2⟩ := Rps.getV (i := i) b (by simpa using e)
    exact ⟨v, by simpa using h1, h2⟩
theorem Rps.take : ∀ {ds : List D} {vs : List V} (n : Nat), Rps K ρ G ds vs → Rps K ρ G (ds.take n) (vs.take n)
  | _, _, 0, _ => by simp; exact .nil
  | _, _, _ + 1, .nil => .nil
  | _, _, n + 1, .cons a b => .cons a (Rps.take n b)
theorem Rps.drop : ∀ {ds : List D} {vs : List V} (n : Nat), Rps K ρ G ds vs → Rps K ρ G (ds.drop n) (vs.drop n)
  | _, _, 0, r => r
  | _, _, _ + 1, .nil => .nil
  | _, _, n + 1, .cons _ b => Rps.drop n b
theorem Rps.set : ∀ {ds : List D} {vs : List V} {d : D} {v : V} (i : Nat), Rps K ρ G ds vs → Rp K ρ G d v → Rps K ρ G (ds.set i d) (vs.set i v)
  | _, _, _, _, _, .nil, _ => .nil
  | _, _, _, _, 0, .cons _ b, r => .cons r b
  | _, _, _, _, i + 1, .cons a b, r => .cons a (Rps.set i b r)
theorem Rps.replicate {d : D} {v : V} (n : Nat) (r : Rp K ρ G d v) : Rps K ρ G (List.replicate n d) (List.replicate n v) := by
  induction n with
  | zero => exact .nil
  | succ n ih => exact .cons r ih
end

/-! ### mutable objects -/
inductive MO where
  | lst (xs : List D)
  | ins (c : Nat) (fs : List (Nat × D))
  | dead

/-- what the text's numbers stand for: classes by number, fields by number -/
structure Nm where
  cls : Nat → Addr
  exc : Nat → Addr
  fld : Nat → Str
  T : List (Addr × Str)

inductive Rfs (nm : Nm) (K : Frg) (ρ : List Addr) (G : Hp) : List (Nat × D) → List (Str × V) → Prop
  | nil : Rfs nm K ρ G [] []
  | cons {f : Nat} {d : D} {v : V} {r : List (Nat × D)} {q : List (Str × V)} : Rp K ρ G d v → Rfs nm K ρ G r q → Rfs nm K ρ G ((f, d) :: r) ((nm.fld f, v) :: q)

def MRep (nm : Nm) (K : Frg) (ρ : List Addr) (G H : Hp) (a : Addr) : MO → Prop
  | .lst xs => ∃ vs, H a = some (.lst vs) ∧ Rps K ρ G xs vs
  | .ins c fs => ∃ dx fvs, H a = some (.ins (nm.cls c) dx fvs) ∧ Rfs nm K ρ G fs fvs
  | .dead => False

/-- something that is no table of code stands at a -/
def NT (H : Hp) (a : Addr) : Prop := ∃ o, H a = some o ∧ ∀ ps, o ≠ .tbl ps
/-- the heap H holds the frozen part G and the mutable objects M, at ρ -/
structure Wf (nm : Nm) (K : Frg) (ρ : List Addr) (G : Hp) (M : List MO) (H : Hp) : Prop where
  sub : Same G H
  len : ρ.length = M.length
  nd : ρ.Nodup
  off : ∀ a ∈ ρ, G a = none ∧ NT H a
  obj : ∀ (i : Nat) (m : MO) (a : Addr), M[i]? = some m → ρ[i]? = some a → MRep nm K ρ G H a m
  gt : ∀ b ps, G b ≠ some (.tbl ps)
  tabs : LamX.Tabs nm.T H
  tfr : ∀ p ∈ nm.T, G p.1 = none ∧ p.1 ∉ ρ

/-- an environment's slot -/
inductive Sl where
  | non
  | val (d : D)
  | own (xs : List D)
  deriving Inhabited
abbrev Ev := List Sl

/-- from one state to a later one: all but the mutable objects is kept, the frozen part grows by new things alone -/
structure Kp (ρ : List Addr) (G H : Hp) (ρ' : List Addr) (G' H' : Hp) : Prop where
  pre : ∀ (i : Nat) (a : Addr), ρ[i]? = some a → ρ'[i]? = some a
  keep : ∀ a o, H a = some o → (∀ ps, o ≠ .tbl ps) → a ∉ ρ → H' a = some o
  fresh : ∀ a, NT H a → G' a = G a
  grow : Same G G'
  nu : ∀ a ∈ ρ', a ∈ ρ ∨ ¬ NT H a
  live : ∀ a, NT H a → NT H' a

/-- the frame's entry -/
structure Fr where
  H : Hp
  G : Hp
  ρ : List Addr

structure SR (nm : Nm) (K : Frg) (fr : Fr) (ρ : List Addr) (G : Hp) (e : Ev) (M : List MO) (σ : L2.St) (H : Hp) : Prop where
  wf : Wf nm K ρ G M H
  kp : Kp fr.ρ fr.G fr.H ρ G H
  vals : ∀ (i : Nat) (d : D), e[i]? = some (.val d) → ∃ v, σ[i]? = some (some v) ∧ Rp K ρ G d v
  owns : ∀ (i : Nat) (xs : List D), e[i]? = some (.own xs) → ∃ a vs, σ[i]? = some (some (.ref a)) ∧ G a = none ∧ ¬ NT fr.H a ∧ a ∉ ρ ∧ H a = some (.lst vs) ∧ Rps K ρ G xs vs
  apart : ∀ (i j : Nat) (xs ys : List D) (a : Addr), e[i]? = some (.own xs) → e[j]? = some (.own ys) → σ[i]? = some (some (.ref a)) → σ[j]? = some (some (.ref a)) → i = j
  len : e.length = σ.length
end PM

namespace PM
open PySem PySem.Spec PyProof.Rows L2

/-! ### the text, nameless -/
inductive Bop | add | sub | mul | fdiv | mod | pow
  deriving DecidableEq, Inhabited
inductive Cop | eq | ne | lt | le | gt | ge | is | isn | inn | nin
  deriving DecidableEq, Inhabited
/-- built-in functions -/
inductive Bi | len | sum | all | any | max2 | min2 | abs | int | str | repr | sorted | tuple | list | divmod | gcd | dict
  deriving DecidableEq, Inhabited
/-- built-in methods that leave what they are called on -/
inductive Mt | index | count | join | split | sindex
  deriving DecidableEq, Inhabited
/-- classes that isinstance asks for -/
inductive Ty | int | bool | str | tuple | list | own (c : Nat)
  deriving DecidableEq, Inhabited

mutual
inductive Ex where
  | non | bl (b : Bool) | int (i : Int) | str (x : Str)
  | var (i : Nat)
  | glob (g : Nat)
  | tup (es : Exs) | lst (es : Exs) | mls (es : Exs)
  | dic (ks vs : Exs)
  | bop (o : Bop) (a b : Ex)
  | neg (a : Ex) | not (a : Ex)
  | cmp (o : Cop) (a b : Ex)
  | chn (o p : Cop) (a b c : Ex)
  | and (a b : Ex) | or (a b : Ex)
  | ife (t : Te) (a b : Ex)
  | idx (a i : Ex)
  | slc (a : Ex) (lo hi : Op')
  | bi (f : Bi) (es : Exs)
  | mt (f : Mt) (a : Ex) (es : Exs)
  | isi (a : Ex) (t : Ty)
  | call (g : Nat) (es : Exs)
  | callk (g : Nat) (es : Exs) (ks : Exs)
  | mk (c : Nat) (es : Exs)
  | fld (a : Ex) (f : Nat)
  | mcall (a : Ex) (c m : Nat) (es : Exs)
  | comp (vs : List Nat) (elt : Ex) (tg : Tg) (it : It') (cond : Cn)
  | comp2 (vs : List Nat) (elt : Ex) (tg : Tg) (it : It') (tg2 : Tg) (it2 : It') (cond : Cn)
/-- a test -/
inductive Te where
  | tr (e : Ex)
  | and (a b : Te) | or (a b : Te) | not (a : Te)
inductive Op' where
  | no
  | so (e : Ex)
inductive Cn where
  | no
  | so (t : Te)
/-- arguments, items of a display; st: with a star -/
inductive Exs where
  | nil
  | cons (st : Bool) (e : Ex) (r : Exs)
/-- what a for walks -/
inductive It' where
  | seq (e : Ex)
  | rng1 (es : Exs)
  | rng2 (es : Exs)
  | zip (es : Exs)
  | enm (es : Exs)
/-- a target: a name, a tuple of names -/
inductive Tg where
  | nm (i : Nat)
  | tp (l : List Nat)
end

/-- a target of an assignment -/
inductive At where
  | nm (i : Nat)
  | sub (o i : Ex)

mutual
inductive St where
  | expr (e : Ex)
  | asg (i : Nat) (e : Ex)
  | asgT (ts : List At) (e : Ex)
  | par (i j : Nat) (a b : Ex)
  | par3 (i j k : Nat) (a b c : Ex)
  | set (o i e : Ex)
  | fset (o : Ex) (f : Nat) (e : Ex)
  | app (i : Nat) (e : Ex)
  | ext (i : Nat) (e : Ex)
  | mapp (o e : Ex)
  | ite (t : Te) (a b : Sts)
  | for (tg : Tg) (it : It') (b : Sts)
  | whl (t : Te) (b : Sts)
  | ret (e : Ex)
  | retN
  | raise (c : Nat) (es : Exs)
  | pass | brk | cont
inductive Sts where
  | nil
  | cons (s : St) (r : Sts)
end

/-! ### results -/
inductive Out (α : Type) where
  | ok (a : α) (e : Ev) (M : List MO)
  | err (c : Nat) (fv : Option (Nat × D)) (e : Ev) (M : List MO)
  | bad
inductive CO where
  | ok (d : D) (M : List MO)
  | err (c : Nat) (fv : Option (Nat × D)) (M : List MO)
  | bad
inductive Fl where
  | nx | rt (d : D) | bk | ct

@[inline] def Out.bind {α β : Type} (x : Out α) (f : α → Ev → List MO → Out β) : Out β := match x with
  | .ok a e M => f a e M
  | .err c v e M => .err c v e M
  | .bad => .bad

/-! ### values -/
mutual
def D.isData : D → Bool
  | .non => true | .bl _ => true | .int _ => true | .str x => PyData.strOk x
  | .tup xs => isDatas xs | .lst xs => isDatas xs
  | .scr _ => false | .dic _ _ => false | .ref _ => false | .exc _ _ _ => false | .exb _ => false | .dcs _ _ => false
def isDatas : List D → Bool
  | [] => true
  | x :: r => x.isData && isDatas r
end
mutual
def D.dep : D → Nat
  | .tup xs => deps xs + 1 | .lst xs => deps xs + 1
  | _ => 0
def deps : List D → Nat
  | [] => 0
  | x :: r => max x.dep (deps r)
end
def D.fit (d : D) : Bool := d.isData && decide (d.dep ≤ 64)
mutual
def D.toP : D → PyData
  | .non => .none | .bl b => .bool b | .int i => .int i | .str x => .str x
  | .tup xs => .tuple (toPs xs) | .lst xs => .list (toPs xs)
  | .scr _ => .none | .dic _ _ => .none | .ref _ => .none | .exc _ _ _ => .none | .exb _ => .none | .dcs _ _ => .none
def toPs : List D → List PyData
  | [] => []
  | x :: r => x.toP :: toPs r
end
/-- equal, as Python has it -/
def eqD (a b : D) : Bool := PyData.eqv a.toP b.toP
def memD (x : D) (l : List D) : Bool := l.any fun y => eqD y x

def lim : Nat := 1000000
def truthD : D → Option Bool
  | .non => some false
  | .bl b => some b
  | .int i => some (i != 0)
  | .str x => if x.length ≤ lim then some ((x.length : Int) != 0) else none
  | .tup xs => some (!xs.isEmpty)
  | .lst xs => some (!xs.isEmpty)
  | _ => none

/-- the ints of a list of ints -/
def intsD : List D → Option (List Int)
  | [] => some []
  | .int i :: r => (intsD r).map (i :: ·)
  | _ :: _ => none
def blsD : List D → Option (List Bool)
  | [] => some []
  | .bl b :: r => (blsD r).map (b :: ·)
  | _ :: _ => none
def strsD : List D → Option (List Str)
  | [] => some []
  | .str b :: r => (strsD r).map (b :: ·)
  | _ :: _ => none
def sumD (xs : List D) : Option Int := (intsD xs).map List.sum

def big (i : Int) : Bool := !decide (i.natAbs < 2 ^ 8000)
def addD : D → D → Option D
  | .int i, .int j => some (.int (i + j))
  | .str x, .str y => if x.length + y.length ≤ lim then some (.str (x ++ y)) else none
  | .tup x, .tup y => if x.length + y.length ≤ lim then some (.tup (x ++ y)) else none
  | .lst x, .lst y => if x.length + y.length ≤ lim then some (.lst (x ++ y)) else none
  | _, _ => none
def mulD : D → D → Option D
  | .int i, .int j => if big i || big j then none else some (.int (i * j))
  | .lst x, .int k => if decide (0 ≤ k) && decide (k ≤ 1000) && decide (x.length ≤ 1000) then some (.lst (List.replicate k.toNat x).flatten) else none
  | .tup x, .int k => if k = 1 then some (.tup x) else if decide (2 ≤ k) && decide (k ≤ 1000) && decide (x.length ≤ 1000) && !x.isEmpty then some (.tup (List.replicate k.toNat x).flatten) else none
  | _, _ => none
def subD : D → D → Option D
  | .int i, .int j => some (.int (i - j))
  | _, _ => none
def fdivD : D → D → Option D
  | .int i, .int j => if decide (0 < j) && !big j then some (.int (i / j)) else none
  | _, _ => none
def modD : D → D → Option D
  | .int i, .int j => if decide (0 < j) then some (.int (i % j)) else none
  | _, _ => none
def powD : D → D → Option D
  | .int i, .int j => if decide (0 ≤ j) && decide (j ≤ 100000) && decide (i.natAbs < 2 ^ 64) then some (.int (i ^ j.toNat)) else none
  | _, _ => none
def bopD : Bop → D → D → Option D
  | .add => addD
  | .sub => subD
  | .mul => mulD
  | .fdiv => fdivD
  | .mod => modD
  | .pow => powD

def ltD : D → D → Option Bool
  | .int i, .int j => some (decide (i < j))
  | .tup x, .tup y => match intsD x, intsD y with
    | some a, some b => some (HT.lexLt a b)
    | _, _ => none
  | _, _ => none
def leD : D → D → Option Bool
  | .int i, .int j => some (decide (i ≤ j))
  | _, _ => none
def strIn (i j : Str) : Bool := !(Builtin.Str.occurrences j i 0 j.length 1).isEmpty
def isFlat : D → Bool
  | .non => true | .bl _ => true | _ => false
def gtD : D → D → Option Bool
  | .int i, .int j => some (decide (j < i))
  | _, _ => none
def geD : D → D → Option Bool
  | .int i, .int j => some (decide (j ≤ i))
  | _, _ => none
def eqQ (a b : D) : Option Bool := if a.fit && b.fit then some (eqD a b) else none
def isQ : D → D → Option Bool
  | .non, .non => some true
  | .bl _, .non => some false | .int _, .non => some false | .str _, .non => some false | .tup _, .non => some false | .lst _, .non => some false | .ref _, .non => some false
  | .bl a, .bl b => some (decide (a = b))
  | _, _ => none
def inQ : D → D → Option Bool
  | .str x, .str y => some (strIn x y)
  | x, .lst ys => if x.fit && (D.lst ys).fit then some (memD x ys) else none
  | x, .tup ys => if x.fit && (D.lst ys).fit then some (memD x ys) else none
  | _, _ => none
def cmpD : Cop → D → D → Option Bool
  | .eq => eqQ
  | .ne => fun a b => (eqQ a b).map not
  | .lt => ltD
  | .gt => gtD
  | .le => leD
  | .ge => geD
  | .is => isQ
  | .isn => fun a b => (isQ a b).map not
  | .inn => inQ
  | .nin => fun a b => (inQ a b).map not

/-- an index, from behind if negative -/
def ixD (n : Nat) (i : Int) : Option Nat := if 0 ≤ i then (if i.toNat < n then some i.toNat else none) else (if (-i).toNat ≤ n then some (n - (-i).toNat) else none)
def getD' : D → D → Option D
  | .tup xs, .int i => (ixD xs.length i).bind fun k => xs[k]?
  | .lst xs, .int i => (ixD xs.length i).bind fun k => xs[k]?
  | _, _ => none
end PM

namespace PM
open PySem PySem.Spec PyProof.Rows L2

def Pre (ρ ρ' : List Addr) : Prop := ∀ (i : Nat) (a : Addr), ρ[i]? = some a → ρ'[i]? = some a
theorem Pre.refl (ρ : List Addr) : Pre ρ ρ := fun _ _ h => h
theorem Pre.trans {a b c : List Addr} (h : Pre a b) (k : Pre b c) : Pre a c := fun i x e => k i x (h i x e)
theorem Pre.mem {ρ ρ' : List Addr} (h : Pre ρ ρ') {a : Addr} (m : a ∈ ρ) : a ∈ ρ' := by
  obtain ⟨i, hi⟩ := List.getElem?_of_mem m
  exact List.mem_of_getElem? (h i a hi)
theorem Pre.push (ρ : List Addr) (p : Addr) : Pre ρ (ρ ++ [p]) := fun i a e => by
  rw [List.getElem?_append_left (List.getElem?_eq_some_iff.mp e).1]
  exact e

section
variable {nm : Nm} {K : Frg} {ρ ρ' : List Addr} {G G' H H' : Hp} {M M' : List MO} {fr : Fr} {e e' : Ev} {σ σ' : L2.St}

theorem Same.upd {p : Addr} {o : HO} (h : H p = none) : Same H (upd H p o) := fun b u q => by rw [upd_ne (ne_of_none q h)]; exact q
theorem Wf.none_of (w : Wf nm K ρ G M H) {p : Addr} (h : H p = none) : G p = none := w.sub.free h
theorem NT.mk1 {a : Addr} {o : HO} (h : H a = some o) (n : ∀ ps, o ≠ .tbl ps) : NT H a := ⟨o, h, n⟩
theorem NT.lst {a : Addr} {xs : List V} (h : H a = some (.lst xs)) : NT H a := ⟨_, h, fun _ z => by cases z⟩
theorem NT.ne {a p : Addr} (h : NT H a) (hp : H p = none) : a ≠ p := fun z => by
  obtain ⟨o, e, _⟩ := h
  rw [z, hp] at e; cases e
theorem NT.no {p : Addr} (hp : H p = none) : ¬ NT H p := fun h => h.ne hp rfl
theorem NT.wr {a p : Addr} {o : HO} (h : NT H a) (n : a ≠ p) : NT (upd H p o) a := by
  obtain ⟨u, e, q⟩ := h
  exact ⟨u, by rw [upd_ne n]; exact e, q⟩
theorem NT.wr1 {a p : Addr} {o : HO} (h : NT H a) (ho : ∀ ps, o ≠ .tbl ps) : NT (L2.upd H p o) a := by
  by_cases z : a = p
  · exact ⟨o, by rw [z, upd_same], ho⟩
  · exact h.wr z
theorem Wf.nin_of (w : Wf nm K ρ G M H) {p : Addr} (h : H p = none) : p ∉ ρ := fun m => (w.off p m).2.ne h rfl
theorem Rfs.mono (h : Same G G') (hr : Pre ρ ρ') : ∀ {fs : List (Nat × D)} {q : List (Str × V)}, Rfs nm K ρ G fs q → Rfs nm K ρ' G' fs q
  | _, _, .nil => .nil
  | _, _, .cons a b => .cons (Rp.mono h hr a) (Rfs.mono h hr b)
theorem MRep.mono (h : Same G G') (hr : Pre ρ ρ') {a : Addr} (k : H' a = H a) : ∀ {m : MO}, MRep nm K ρ G H a m → MRep nm K ρ' G' H' a m
  | .lst xs, ⟨vs, e, r⟩ => ⟨vs, k.trans e, Rps.mono h hr r⟩
  | .ins c fs, ⟨dx, q, e, r⟩ => ⟨dx, q, k.trans e, Rfs.mono h hr r⟩
  | .dead, h => h

theorem tab_upd {T : List (Addr × Str)} {p : Addr} {o : HO} (t : LamX.Tabs T H) (h : H p = none) : LamX.Tabs T (upd H p o) := t.ext fun b u q => by rw [upd_ne (ne_of_none q h)]; exact q
/-- what stands at p is a list, an instance, or nothing -/
def Soft (H : Hp) (p : Addr) : Prop := ∀ u, H p = some u → (∃ xs, u = .lst xs) ∨ ∃ C dx fs, u = .ins C dx fs
theorem Soft.none {p : Addr} (h : H p = none) : Soft H p := fun u e => by rw [h] at e; cases e
theorem Soft.lst {p : Addr} {xs : List V} (h : H p = some (.lst xs)) : Soft H p := fun u e => by rw [h] at e; cases e; exact .inl ⟨xs, rfl⟩
theorem Soft.ins {p : Addr} {C dx : Addr} {fs : List (Str × V)} (h : H p = some (.ins C dx fs)) : Soft H p := fun u e => by rw [h] at e; cases e; exact .inr ⟨C, dx, fs, rfl⟩
theorem Soft.tbl {p : Addr} (h : Soft H p) (ps : Array Value) : H p ≠ some (.tbl ps) := fun e => by
  rcases h _ e with ⟨_, z⟩ | ⟨_, _, _, z⟩ <;> cases z
theorem Soft.code {p c : Addr} {q : Str} (h : Soft H p) : H p ≠ some (LamX.CodeO c q) := fun e => by
  unfold LamX.CodeO at e
  rcases h _ e with ⟨_, z⟩ | ⟨_, _, _, z⟩ <;> cases z
theorem tab_wr {T : List (Addr × Str)} {p : Addr} {o : HO} (t : LamX.Tabs T H) (h : Soft H p) : LamX.Tabs T (upd H p o) := fun q hq => by
  obtain ⟨ps, h1, h2, h3⟩ := t q hq
  refine ⟨ps, by rw [upd_ne (fun z => h.tbl ps (z ▸ h1) : q.1 ≠ p)]; exact h1, h2, fun pos cv hc => ?_⟩
  obtain ⟨c, e1, e2⟩ := h3 pos cv hc
  exact ⟨c, e1, by rw [upd_ne (fun z => h.code (z ▸ e2) : c ≠ p)]; exact e2⟩
theorem tbl_wr {T : List (Addr × Str)} {p : Addr} {o : HO} (t : ∀ a ps, H a = some (.tbl ps) → ∃ q ∈ T, q.1 = a) (ho : ∀ ps, o ≠ .tbl ps) : ∀ a ps, (upd H p o) a = some (.tbl ps) → ∃ q ∈ T, q.1 = a := fun a ps e => by
  by_cases hb : a = p
  · subst hb; rw [upd_same] at e; exact absurd (Option.some.inj e) (ho ps)
  · rw [upd_ne hb] at e; exact t a ps e
/-- a new frozen object -/
theorem Wf.alloc (w : Wf nm K ρ G M H) {p : Addr} (hp : H p = none) (o : HO) (ho : ∀ ps, o ≠ .tbl ps := by intro _ z; cases z) : Wf nm K ρ (upd G p o) M (upd H p o) where
  sub := fun b u q => by
    by_cases hb : b = p
    · subst hb; rw [upd_same] at q; rw [upd_same]; exact q
    · rw [upd_ne hb] at q; rw [upd_ne hb]; exact w.sub b u q
  len := w.len
  nd := w.nd
  off := fun a m => by
    have n : a ≠ p := fun z => w.nin_of hp (z ▸ m)
    exact ⟨by rw [upd_ne n]; exact (w.off a m).1, (w.off a m).2.wr n⟩
  obj := fun i m a hm ha => by
    have n : a ≠ p := fun z => w.nin_of hp (z ▸ List.mem_of_getElem? ha)
    exact (w.obj i m a hm ha).mono (Same.upd (w.none_of hp)) (Pre.refl _) (upd_ne n)
  gt := fun b ps e => by
    by_cases hb : b = p
    · subst hb; rw [upd_same] at e; exact ho ps (Option.some.inj e)
    · rw [upd_ne hb] at e; exact w.gt b ps e
  tabs := tab_upd w.tabs hp
  tfr := fun q hq => by
    obtain ⟨h1, h2⟩ := w.tfr q hq
    obtain ⟨ps, h3, _⟩ := w.tabs q hq
    exact ⟨by rw [upd_ne (ne_of_none h3 hp)]; exact h1, h2⟩
theorem Kp.refl : Kp ρ G H ρ G H := ⟨fun _ _ h => h, fun _ _ h _ _ => h, fun _ _ => rfl, Same.refl _, fun _ m => .inl m, fun _ h => h⟩
theorem Kp.trans {ρ2 : List Addr} {G2 H2 : Hp} (a : Kp ρ G H ρ' G' H') (b : Kp ρ' G' H' ρ2 G2 H2) : Kp ρ G H ρ2 G2 H2 where
  pre := fun i x h => b.pre i x (a.pre i x h)
  keep := fun x o h n m => b.keep x o (a.keep x o h n m) n fun z => (a.nu x z).elim m fun z => z ⟨o, h, n⟩
  fresh := fun x h => (b.fresh x (a.live x h)).trans (a.fresh x h)
  grow := a.grow.trans b.grow
  nu := fun x m => (b.nu x m).elim (fun z => a.nu x z) fun z => .inr fun q => z (a.live x q)
  live := fun x h => b.live x (a.live x h)
theorem Kp.alloc (w : Wf nm K ρ G M H) {p : Addr} (hp : H p = none) (o : HO) : Kp ρ G H ρ (upd G p o) (upd H p o) where
  pre := fun _ _ h => h
  keep := fun a u q _ _ => by rw [upd_ne (ne_of_none q hp)]; exact q
  fresh := fun a q => upd_ne (q.ne hp)
  grow := Same.upd (w.none_of hp)
  nu := fun _ m => .inl m
  live := fun a q => q.wr (q.ne hp)
theorem Kp.grows (k : Kp ρ G H ρ' G' H') (s : Same G H) : Same G G' := k.grow
/-- the frame goes on behind a step that keeps its own lists -/
theorem SR.step (r : SR nm K fr ρ G e M σ H) (k : Kp ρ G H ρ' G' H') (w : Wf nm K ρ' G' M' H') : SR nm K fr ρ' G' e M' σ H' where
  wf := w
  kp := r.kp.trans k
  vals := fun i d q => by
    obtain ⟨v, h1, h2⟩ := r.vals i d q
    exact ⟨v, h1, h2.mono (k.grows r.wf.sub) k.pre⟩
  owns := fun i xs q => by
    obtain ⟨a, vs, h1, h2, h3, h4, h5, h6⟩ := r.owns i xs q
    have n5 : NT H a := NT.lst h5
    exact ⟨a, vs, h1, by rw [k.fresh a n5]; exact h2, h3, fun m => (k.nu a m).elim h4 fun z => z n5, k.keep a _ h5 (fun _ z => by cases z) h4, h6.mono (k.grows r.wf.sub) k.pre⟩
  apart := r.apart
  len := r.len
theorem SR.alloc (r : SR nm K fr ρ G e M σ H) {p : Addr} (hp : H p = none) (o : HO) (ho : ∀ ps, o ≠ .tbl ps := by intro _ z; cases z) : SR nm K fr ρ (upd G p o) e M σ (upd H p o) :=
  r.step (Kp.alloc r.wf hp o) (r.wf.alloc hp o ho)
theorem SR.same (r : SR nm K fr ρ G e M σ H) : Same G H := r.wf.sub

/-! ### readings -/
/-- an exception's own dict -/
def ErrRep (nm : Nm) (K : Frg) (ρ : List Addr) (G H : Hp) (dx : Option Addr) : Option (Nat × D) → Prop
  | none => dx = none
  | some (f, d) => ∃ a v, dx = some a ∧ H a = some (.xd [(nm.fld f, v)]) ∧ Rp K ρ G d v
def Per (nm : Nm) (K : Frg) (fr : Fr) (ρ : List Addr) (G : Hp) (W : WX) (k : Nat) (fv : Option (Nat × D)) (e : Ev) (M : List MO) : Prop :=
  ∀ σ' H' G' ρ' dx, Same G G' → Pre ρ ρ' → SR nm K fr ρ' G' e M σ' H' → ErrRep nm K ρ' G' H' dx fv → W (.ref (nm.exc k)) dx σ' H'
/-- what is wanted of an evaluation's end -/
abbrev Gd (α : Type) : Type := List Addr → Hp → α → Ev → List MO → Prop
def pG {α : Type} (nm : Nm) (K : Frg) (fr : Fr) (W : WX) (gd : Gd α) (ρ : List Addr) (G : Hp) : Out α → Prop
  | .ok a e M => gd ρ G a e M
  | .err k fv e M => Per nm K fr ρ G W k fv e M
  | .bad => False
def Gd.Mono {α : Type} (gd : Gd α) : Prop := ∀ ρ G ρ' G' a e M, Same G G' → Pre ρ ρ' → gd ρ G a e M → gd ρ' G' a e M
def gdE (nm : Nm) (K : Frg) (fr : Fr) (σ : L2.St) (Q : VK) : Gd D := fun ρ G d e M => ∀ v H' G' ρ', Same G G' → Pre ρ ρ' → SR nm K fr ρ' G' e M σ H' → Rp K ρ' G' d v → Q v H'
def gdT (nm : Nm) (K : Frg) (fr : Fr) (σ : L2.St) (Q : Bool → Hp → Prop) : Gd Bool := fun ρ G b e M => ∀ H' G' ρ', Same G G' → Pre ρ ρ' → SR nm K fr ρ' G' e M σ H' → Q b H'
def gdA (nm : Nm) (K : Frg) (fr : Fr) (σ : L2.St) (Q : List V → Hp → Prop) : Gd (List D) := fun ρ G ds e M => ∀ vs H' G' ρ', Same G G' → Pre ρ ρ' → SR nm K fr ρ' G' e M σ H' → Rps K ρ' G' ds vs → Q vs H'
def gdS (nm : Nm) (K : Frg) (fr : Fr) (E : Ends) : Gd Fl := fun ρ G fl e M => match fl with
  | .nx => ∀ σ' H' G' ρ', Same G G' → Pre ρ ρ' → SR nm K fr ρ' G' e M σ' H' → E.nx σ' H'
  | .rt d => ∀ v σ' H' G' ρ', Same G G' → Pre ρ ρ' → SR nm K fr ρ' G' e M σ' H' → Rp K ρ' G' d v → E.rt v H'
  | .bk => ∀ σ' H' G' ρ', Same G G' → Pre ρ ρ' → SR nm K fr ρ' G' e M σ' H' → E.bk σ' H'
  | .ct => ∀ σ' H' G' ρ', Same G G' → Pre ρ ρ' → SR nm K fr ρ' G' e M σ' H' → E.ct σ' H'
theorem gdE_mono {Q : VK} : (gdE nm K fr σ Q).Mono := fun _ _ _ _ _ _ _ g p h v H1 G1 ρ1 h1 h2 h3 h4 => h v H1 G1 ρ1 (g.trans h1) (p.trans h2) h3 h4
theorem gdT_mono {Q : Bool → Hp → Prop} : (gdT nm K fr σ Q).Mono := fun _ _ _ _ _ _ _ g p h H1 G1 ρ1 h1 h2 h3 => h H1 G1 ρ1 (g.trans h1) (p.trans h2) h3
theorem gdA_mono {Q : List V → Hp → Prop} : (gdA nm K fr σ Q).Mono := fun _ _ _ _ _ _ _ g p h v H1 G1 ρ1 h1 h2 h3 h4 => h v H1 G1 ρ1 (g.trans h1) (p.trans h2) h3 h4
theorem gdS_mono {E : Ends} : (gdS nm K fr E).Mono := fun ρ G ρ' G' fl e M g p h => by
  cases fl with
  | nx => exact fun s H1 G1 ρ1 h1 h2 h3 => h s H1 G1 ρ1 (g.trans h1) (p.trans h2) h3
  | rt d => exact fun v s H1 G1 ρ1 h1 h2 h3 h4 => h v s H1 G1 ρ1 (g.trans h1) (p.trans h2) h3 h4
  | bk => exact fun s H1 G1 ρ1 h1 h2 h3 => h s H1 G1 ρ1 (g.trans h1) (p.trans h2) h3
  | ct => exact fun s H1 G1 ρ1 h1 h2 h3 => h s H1 G1 ρ1 (g.trans h1) (p.trans h2) h3
theorem pG.mono {α : Type} {W : WX} {gd : Gd α} (hm : gd.Mono) (g : Same G G') (p : Pre ρ ρ') : ∀ {o : Out α}, pG nm K fr W gd ρ G o → pG nm K fr W gd ρ' G' o
  | .ok _ _ _, h => hm _ _ _ _ _ _ _ g p h
  | .err _ _ _ _, h => fun s H1 G1 ρ1 dx h1 h2 h3 h4 => h s H1 G1 ρ1 dx (g.trans h1) (p.trans h2) h3 h4
  | .bad, h => h
/-- the readings by an evaluation -/
def tE (nm : Nm) (K : Frg) (W : WX) (f : Ev → List MO → Out D) : TE := fun σ H Q => ∃ fr ρ G e M, SR nm K fr ρ G e M σ H ∧ pG nm K fr W (gdE nm K fr σ Q) ρ G (f e M)
def tT (nm : Nm) (K : Frg) (W : WX) (f : Ev → List MO → Out Bool) : TT := fun σ H Q => ∃ fr ρ G e M, SR nm K fr ρ G e M σ H ∧ pG nm K fr W (gdT nm K fr σ Q) ρ G (f e M)
def tA (nm : Nm) (K : Frg) (W : WX) (f : Ev → List MO → Out (List D)) : TA := fun σ H Q => ∃ fr ρ G e M, SR nm K fr ρ G e M σ H ∧ pG nm K fr W (gdA nm K fr σ Q) ρ G (f e M)
def tS (nm : Nm) (K : Frg) (W : WX) (f : Ev → List MO → Out Fl) : TS := fun E σ H => ∃ fr ρ G e M, SR nm K fr ρ G e M σ H ∧ pG nm K fr W (gdS nm K fr E) ρ G (f e M)

section
variable {α : Type} {W : WX} {gd : Gd α}
/-- an evaluation whose value is used: the value has come -/
theorem tE.bind {f : Ev → List MO → Out D} {k : D → Ev → List MO → Out α} {R : VK} (hm : gd.Mono) (r : SR nm K fr ρ G e M σ H) (h : pG nm K fr W gd ρ G ((f e M).bind k))
    (hk : ∀ ρ' G' e' M' d v H', Same G G' → Pre ρ ρ' → SR nm K fr ρ' G' e' M' σ H' → Rp K ρ' G' d v → pG nm K fr W gd ρ' G' (k d e' M') → R v H') : tE nm K W f σ H R := by
  refine ⟨fr, ρ, G, e, M, r, ?_⟩
  cases q : f e M with
  | bad => rw [q] at h; exact h
  | err c fv e' M' => rw [q] at h; exact h
  | ok d e' M' =>
    rw [q] at h
    exact fun v H' G' ρ' g p r' rv => hk ρ' G' e' M' d v H' g p r' rv (pG.mono hm g p h)
theorem tT.bind {f : Ev → List MO → Out Bool} {k : Bool → Ev → List MO → Out α} {R : Bool → Hp → Prop} (hm : gd.Mono) (r : SR nm K fr ρ G e M σ H) (h : pG nm K fr W gd ρ G ((f e M).bind k))
    (hk : ∀ ρ' G' e' M' b H', Same G G' → Pre ρ ρ' → SR nm K fr ρ' G' e' M' σ H' → pG nm K fr W gd ρ' G' (k b e' M') → R b H') : tT nm K W f σ H R := by
  refine ⟨fr, ρ, G, e, M, r, ?_⟩
  cases q : f e M with
  | bad => rw [q] at h; exact h
  | err c fv e' M' => rw [q] at h; exact h
  | ok d e' M' =>
    rw [q] at h
    exact fun H' G' ρ' g p r' => hk ρ' G' e' M' d H' g p r' (pG.mono hm g p h)
theorem tA.bind {f : Ev → List MO → Out (List D)} {k : List D → Ev → List MO → Out α} {R : List V → Hp → Prop} (hm : gd.Mono) (r : SR nm K fr ρ G e M σ H) (h : pG nm K fr W gd ρ G ((f e M).bind k))
    (hk : ∀ ρ' G' e' M' ds vs H', Same G G' → Pre ρ ρ' → SR nm K fr ρ' G' e' M' σ H' → Rps K ρ' G' ds vs → pG nm K fr W gd ρ' G' (k ds e' M') → R vs H') : tA nm K W f σ H R := by
  refine ⟨fr, ρ, G, e, M, r, ?_⟩
  cases q : f e M with
  | bad => rw [q] at h; exact h
  | err c fv e' M' => rw [q] at h; exact h
  | ok d e' M' =>
    rw [q] at h
    exact fun v H' G' ρ' g p r' rv => hk ρ' G' e' M' d v H' g p r' rv (pG.mono hm g p h)
end
end
end PM

namespace PM
open PySem PySem.Spec PyProof.Rows L2

/-- the heap and its frozen part have grown by new things -/
inductive New : Hp → Hp → Hp → Hp → Prop
  | refl (G H : Hp) : New G H G H
  | step {G H G1 H1 : Hp} (p : Addr) (o : HO) : (∀ ps, o ≠ .tbl ps) → New G H G1 H1 → H1 p = none → New G H (upd G1 p o) (upd H1 p o)
theorem New.one {G H : Hp} {p : Addr} (h : H p = none) (o : HO) (hn : ∀ ps, o ≠ .tbl ps := by intro _ z; cases z) : New G H (upd G p o) (upd H p o) := .step p o hn (.refl G H) h
section
variable {nm : Nm} {K : Frg} {ρ ρ' : List Addr} {G G' H H' : Hp} {M M' : List MO} {fr : Fr} {e e' : Ev} {σ σ' : L2.St}
theorem New.both (n : New G H G' H') (h : Same G H) : Same G G' ∧ Same G' H' := by
  induction n with
  | refl => exact ⟨Same.refl _, h⟩
  | step p o hn n hp ih =>
    obtain ⟨a, b⟩ := ih
    refine ⟨a.trans (Same.upd (b.free hp)), fun c u q => ?_⟩
    by_cases hc : c = p
    · subst hc; rw [upd_same] at q; rw [upd_same]; exact q
    · rw [upd_ne hc] at q; rw [upd_ne hc]; exact b c u q
theorem SR.new (n : New G H G' H') (r : SR nm K fr ρ G e M σ H) : SR nm K fr ρ G' e M σ H' := by
  induction n with
  | refl => exact r
  | step p o hn n hp ih => exact ih.alloc hp o hn
theorem Wf.new (n : New G H G' H') (r : Wf nm K ρ G M H) : Wf nm K ρ G' M H' := by
  induction n with
  | refl => exact r
  | step p o hn n hp ih => exact ih.alloc hp o hn

/-- what a pure operation's value is wanted for -/
def Got (K : Frg) (ρ : List Addr) (G H : Hp) (Q : VK) (d : D) : Prop := ∀ v H' G', New G H G' H' → Rp K ρ G' d v → Q v H'
theorem Got.sc {Q : VK} {d : D} {v : V} (h : Got K ρ G H Q d) (r : Rp K ρ G d v) : Q v H := h v H G (.refl G H) r
theorem Got.tup {Q : VK} {xs : List D} {vs : List V} (h : Got K ρ G H Q (.tup xs)) (hs : Same G H) (r : Rps K ρ G xs vs) : ∀ p, H p = none → Q (.ref p) (upd H p (.tup vs)) := fun p hp =>
  h _ _ _ (.one hp _) (.tup upd_same (r.mono (Same.upd (hs.free hp)) (Pre.refl _)))
theorem Got.lst {Q : VK} {xs : List D} {vs : List V} (h : Got K ρ G H Q (.lst xs)) (hs : Same G H) (r : Rps K ρ G xs vs) : ∀ p, H p = none → Q (.ref p) (upd H p (.lst vs)) := fun p hp =>
  h _ _ _ (.one hp _) (.lst upd_same (r.mono (Same.upd (hs.free hp)) (Pre.refl _)))

/-- an operator by values -/
def rOp (K : Frg) (g : D → D → Option D) : R2 := fun x y H Q => ∃ ρ G a b d, Same G H ∧ Rp K ρ G a x ∧ Rp K ρ G b y ∧ g a b = some d ∧ Got K ρ G H Q d

theorem SqT.up {xs : List V} {a : Addr} (h : Same G H) (r : G a = some (.tup xs)) : SqT K H a xs := .inl (.inl (h _ _ r))
theorem Rps.nil_iff {ds : List D} {vs : List V} (r : Rps K ρ G ds vs) : ds = [] ↔ vs = [] := by
  cases r with
  | nil => simp
  | cons _ _ => simp
theorem Rps.ints : ∀ {ds : List D} {vs : List V} {is : List Int}, Rps K ρ G ds vs → intsD ds = some is → vs = is.map V.int
  | _, _, is, .nil, h => by
    have : is = [] := by simpa [intsD] using h.symm
    subst this; rfl
  | d :: ds, v :: vs, is, .cons a b, h => by
    cases d with
    | int i =>
      cases a
      simp only [intsD, Option.map_eq_some_iff] at h
      obtain ⟨js, h1, rfl⟩ := h
      rw [Rps.ints b h1]; rfl
    | _ => simp [intsD] at h
theorem Rps.bls : ∀ {ds : List D} {vs : List V} {is : List Bool}, Rps K ρ G ds vs → blsD ds = some is → vs = is.map V.bl
  | _, _, is, .nil, h => by
    have : is = [] := by simpa [blsD] using h.symm
    subst this; rfl
  | d :: ds, v :: vs, is, .cons a b, h => by
    cases d with
    | bl i =>
      cases a
      simp only [blsD, Option.map_eq_some_iff] at h
      obtain ⟨js, h1, rfl⟩ := h
      rw [Rps.bls b h1]; rfl
    | _ => simp [blsD] at h
theorem Rps.strs : ∀ {ds : List D} {vs : List V} {is : List Str}, Rps K ρ G ds vs → strsD ds = some is → vs = is.map V.str
  | _, _, is, .nil, h => by
    have : is = [] := by simpa [strsD] using h.symm
    subst this; rfl
  | d :: ds, v :: vs, is, .cons a b, h => by
    cases d with
    | str i =>
      cases a
      simp only [strsD, Option.map_eq_some_iff] at h
      obtain ⟨js, h1, rfl⟩ := h
      rw [Rps.strs b h1]; rfl
    | _ => simp [strsD] at h
theorem lim_line : lim ≤ sizeLine := by decide

mutual
theorem Rp.dp (hs : Same G H) : ∀ {d : D} {v : V}, Rp K ρ G d v → d.isData = true → Dp K H v d.toP
  | _, _, .non, _ => by simp only [D.toP]; exact .non
  | _, _, .bl b, _ => by simp only [D.toP]; exact .bl b
  | _, _, .int i, _ => by simp only [D.toP]; exact .int i
  | _, _, .str x, _ => by simp only [D.toP]; exact .str x
  | .tup xs, .ref a, .tup s r, h => by simp only [D.toP]; exact .tup (SqT.up hs s) (Rps.dp hs r (by simpa only [D.isData] using h))
  | .lst xs, .ref a, .lst s r, h => by simp only [D.toP]; exact .lst (.inl (.inl (hs _ _ s))) (Rps.dp hs r (by simpa only [D.isData] using h))
  | .scr _, _, .scr s, h => by simp [D.isData] at h
  | .ref _, _, .ref e, h => by simp [D.isData] at h
theorem Rps.dp (hs : Same G H) : ∀ {ds : List D} {vs : List V}, Rps K ρ G ds vs → isDatas ds = true → DpAll K H vs (toPs ds)
  | _, _, .nil, _ => by simp only [toPs]; exact .nil
  | _, _, .cons a b, h => by
    simp only [isDatas, Bool.and_eq_true] at h
    simp only [toPs]
    exact .cons (Rp.dp hs a h.1) (Rps.dp hs b h.2)
end
mutual
theorem toP_lay : ∀ d : D, d.isData = true → d.toP.canLay0 = true ∧ d.toP.depth = d.dep
  | .non, _ => by simp [D.toP, PyData.canLay0, PyData.depth, D.dep]
  | .bl b, _ => by simp [D.toP, PyData.canLay0, PyData.depth, D.dep]
  | .int i, _ => by simp [D.toP, PyData.canLay0, PyData.depth, D.dep]
  | .str x, h => by simpa [D.toP, PyData.canLay0, PyData.depth, D.dep, D.isData] using h
  | .tup xs, h => by
    obtain ⟨a, b⟩ := toPs_lay xs (by simpa only [D.isData] using h)
    simp [D.toP, PyData.canLay0, PyData.depth, D.dep, a, b]
  | .lst xs, h => by
    obtain ⟨a, b⟩ := toPs_lay xs (by simpa only [D.isData] using h)
    simp [D.toP, PyData.canLay0, PyData.depth, D.dep, a, b]
  | .scr _, h => by simp [D.isData] at h
  | .dic _ _, h => by simp [D.isData] at h
  | .ref _, h => by simp [D.isData] at h
  | .exc _ _ _, h => by simp [D.isData] at h
  | .exb _, h => by simp [D.isData] at h
  | .dcs _ _, h => by simp [D.isData] at h
theorem toPs_lay : ∀ ds : List D, isDatas ds = true → PyData.canLayAll0 (toPs ds) = true ∧ PyData.depthAll (toPs ds) = deps ds
  | [], _ => by simp [toPs, PyData.canLayAll0, PyData.depthAll, deps]
  | d :: r, h => by
    simp only [isDatas, Bool.and_eq_true] at h
    obtain ⟨a, b⟩ := toP_lay d h.1
    obtain ⟨a2, b2⟩ := toPs_lay r h.2
    simp [toPs, PyData.canLayAll0, PyData.depthAll, deps, a, b, a2, b2]
end
theorem fit_shaped {d : D} (h : d.fit = true) : d.isData = true ∧ SeqAt.shaped d.toP = true := by
  simp only [D.fit, Bool.and_eq_true, decide_eq_true_eq] at h
  obtain ⟨a, b⟩ := toP_lay d h.1
  refine ⟨h.1, ?_⟩
  simp [SeqAt.shaped, a, b, h.2]
end

section
variable {X : Cx}
theorem not_big {i : Int} (h : big i = false) : i.natAbs < 2 ^ 8000 := by
  simpa [big] using h
def opA : Bop → Operator
  | .add => .Add | .sub => .Sub | .mul => .Mult | .fdiv => .FloorDiv | .mod => .Mod | .pow => .Pow
theorem tuple_mul1 (l : Addr) (items : Array Value) (n : Nat) (dd : Option Addr) (sl : Array (Option Value)) (u : Tok) :
    Meets (Builtin.«tuple.__mul__» ⟨[.ref l, .int 1 u], []⟩) (fun _ R s => s.heap.get? l = some { cls := .type "tuple", dict := dd, data := .seq items n, slots := sl } ∧ R (.ok (.ret (Value.ref l))) s) :=
  .of_wp fun prog w A R s h => by
    obtain ⟨hp, g, d, tk, os⟩ := s
    obtain ⟨hl, h⟩ := h
    have f1 := AutoSeq1.idx_int
    wp_walk using wpAny_loadPart' hl
    exact ⟨_, rfl, h⟩
/-- a tuple once is the tuple itself -/
theorem op_repT1 {X : Cx} : OpR X (binaryOp .Mult) (fun x y H Q => ∃ l xs, x = .ref l ∧ y = .int 1 ∧ SqT X.K H l xs ∧ Q (.ref l) H) := by
  intro pins s σ H x y v u Q I rx ry h
  obtain ⟨l, xs, rfl, rfl, hT, q⟩ := h
  cases rx
  obtain ⟨t, rfl⟩ := ry
  obtain ⟨its, r, ⟨⟨cls, dd, data, sl⟩, ho, hc, n, hd⟩, hs⟩ := I.tuple hT
  simp only at hc hd
  subst hc hd
  refine wpAny_binaryOp_repeat_ref (T := "tuple") (U := "int") (by decide) ⟨_, ho, rfl⟩ (fun s' => typeIs_int s' 1 t) noFill_tuple_mul F.fills_int_mul F.slot_int_rmul repeat_tuple F.slot_int_index.lookup
    (call_meets F.slot_int_rmul (typeIs_int s 1 t) F.entry_int_rmul (F.args_int_rmul_2 _ _) (int_rmul_tuple 1 t l its.toArray n dd sl)
      ⟨ho, rfl, ⟨_, ho, rfl⟩, call_meets F.slot_tuple_mul ⟨_, ho, rfl⟩ F.entry_tuple_mul (F.args_tuple_mul_2 _ _) (tuple_mul1 l its.toArray n dd sl t) ⟨ho, ?_⟩⟩)
  exact ⟨.ref l, H, I, rfl, q⟩
theorem bop_ok (o : Bop) : OpR X (binaryOp (opA o)) (rOp X.K (bopD o)) := by
  intro pins s σ H x y v u Q I rx ry h
  obtain ⟨ρ, G, a, b, d, hs, ra, rb, hd, q⟩ := h
  cases o with
  | sub =>
    simp only [bopD, subD] at hd
    split at hd
    · cases ra; cases rb; cases hd
      exact op_sub pins s σ H _ _ v u Q I rx ry ⟨_, _, rfl, rfl, q.sc (Rp.int _)⟩
    · cases hd
  | fdiv =>
    simp only [bopD, fdivD] at hd
    split at hd
    · split at hd
      · rename_i c
        simp only [Bool.and_eq_true, decide_eq_true_eq, Bool.not_eq_true'] at c
        cases ra; cases rb; cases hd
        exact op_fdivW pins s σ H _ _ v u Q I rx ry ⟨_, _, rfl, rfl, wide_div c.1 (not_big c.2) (by decide) (by decide), q.sc (Rp.int _)⟩
      · cases hd
    · cases hd
  | mod =>
    simp only [bopD, modD] at hd
    split at hd
    · split at hd
      · rename_i c
        simp only [decide_eq_true_eq] at c
        cases ra; cases rb; cases hd
        exact op_mod pins s σ H _ _ v u Q I rx ry ⟨_, _, rfl, rfl, c, q.sc (Rp.int _)⟩
      · cases hd
    · cases hd
  | pow =>
    simp only [bopD, powD] at hd
    split at hd
    · split at hd
      · rename_i c
        simp only [Bool.and_eq_true, decide_eq_true_eq] at c
        cases ra; cases rb; cases hd
        exact op_pow pins s σ H _ _ v u Q I rx ry ⟨_, _, rfl, rfl, ⟨c.1.1, by omega, c.2⟩, q.sc (Rp.int _)⟩
      · cases hd
    · cases hd
  | add =>
    simp only [bopD, addD] at hd
    split at hd
    · cases ra; cases rb; cases hd
      exact op_add pins s σ H _ _ v u Q I rx ry ⟨_, _, rfl, rfl, q.sc (Rp.int _)⟩
    · split at hd
      · rename_i c
        cases ra; cases rb; cases hd
        exact op_add_str pins s σ H _ _ v u Q I rx ry ⟨_, _, rfl, rfl, Nat.le_trans c lim_line, q.sc (.str _)⟩
      · cases hd
    · split at hd
      · rename_i c
        cases ra with
        | tup sa ra =>
        cases rb with
        | tup sb rb =>
        cases hd
        have la := ra.length
        have lb := rb.length
        refine op_catA pins s σ H _ _ v u Q I rx ry ⟨_, _, _, _, rfl, rfl, SqT.up hs sa, SqT.up hs sb, by rw [← la, ← lb]; exact Nat.le_trans c lim_line, fun z => ?_, fun z z2 => ?_, fun z z2 => ?_⟩
        · have := ra.nil_iff.mpr z
          subst this
          exact q.sc (.tup sb (by simpa using rb))
        · have := rb.nil_iff.mpr z2
          subst this
          exact q.sc (.tup sa (by simpa using ra))
        · exact q.tup hs (ra.append rb)
      · cases hd
    · split at hd
      · rename_i c
        cases ra with
        | lst sa ra =>
        cases rb with
        | lst sb rb =>
        cases hd
        have la := ra.length
        have lb := rb.length
        exact op_cat pins s σ H _ _ v u Q I rx ry ⟨_, _, _, _, rfl, rfl, hs _ _ sa, hs _ _ sb, by rw [← la, ← lb]; exact Nat.le_trans c lim_line, q.lst hs (ra.append rb)⟩
      · cases hd
    · cases hd
  | mul =>
    simp only [bopD, mulD] at hd
    split at hd
    · split at hd
      · cases hd
      · rename_i c
        simp only [Bool.or_eq_true, not_or, Bool.not_eq_true] at c
        cases ra; cases rb; cases hd
        exact op_mulW pins s σ H _ _ v u Q I rx ry ⟨_, _, rfl, rfl, wide_mul (not_big c.1) (not_big c.2) (by decide) (by decide) (by decide), q.sc (Rp.int _)⟩
    · split at hd
      · rename_i x k c
        simp only [Bool.and_eq_true, decide_eq_true_eq] at c
        cases ra with
        | lst sa ra =>
        cases rb; cases hd
        have la := ra.length
        refine op_rep pins s σ H _ _ v u Q I rx ry ⟨_, _, _, rfl, rfl, hs _ _ sa, by omega, by omega, ?_, q.lst hs ?_⟩
        · rw [← la]
          exact Nat.le_trans (Nat.mul_le_mul c.2 (show k.toNat ≤ 1000 by omega)) (by decide)
        · clear c
          generalize k.toNat = n
          induction n with
          | zero => exact .nil
          | succ n ih => simpa [List.replicate_succ] using ra.append ih
      · cases hd
    · split at hd
      · rename_i k1
        subst k1
        cases ra with
        | tup sa ra =>
        cases rb; cases hd
        exact op_repT1 pins s σ H _ _ v u Q I rx ry ⟨_, _, rfl, rfl, SqT.up hs sa, q.sc (.tup sa ra)⟩
      split at hd
      · rename_i x k k1 c
        simp only [Bool.and_eq_true, decide_eq_true_eq, Bool.not_eq_true', List.isEmpty_eq_false_iff] at c
        cases ra with
        | tup sa ra =>
        cases rb; cases hd
        have la := ra.length
        refine op_repT pins s σ H _ _ v u Q I rx ry ⟨_, _, _, rfl, rfl, SqT.up hs sa, fun z => c.2 (ra.nil_iff.mpr z), c.1.1.1, c.1.1.2, by omega, q.tup hs ?_⟩
        clear c
        generalize k.toNat = n
        induction n with
        | zero => exact .nil
        | succ n ih => simpa [List.replicate_succ] using ra.append ih
      · cases hd
    · cases hd
end
end PM

namespace PM
open PySem PySem.Spec PyProof.Rows L2
section
variable {X : Cx}
def cpA : Cop → CmpOp
  | .eq => .Eq | .ne => .NotEq | .lt => .Lt | .le => .LtE | .gt => .Gt | .ge => .GtE | .is => .Is | .isn => .IsNot | .inn => .In | .nin => .NotIn
/-- a comparison by values -/
def rCp (K : Frg) (g : D → D → Option Bool) : R2 := fun x y H Q => ∃ ρ G a b k, Same G H ∧ Rp K ρ G a x ∧ Rp K ρ G b y ∧ g a b = some k ∧ Q (.bl k) H
theorem memD_any (x : D) (l : List D) : memD x l = (toPs l).any fun z => PyData.eqv z x.toP := by
  induction l with
  | nil => rfl
  | cons a r ih =>
    show ((a :: r).any fun y => eqD y x) = _
    rw [List.any_cons]
    show (eqD a x || memD x r) = _
    rw [ih]
    simp only [toPs, List.any_cons]
    rfl
theorem isQ_V {K : Frg} {ρ : List Addr} {G : Hp} {a b : D} {x y : V} {k : Bool} (ra : Rp K ρ G a x) (rb : Rp K ρ G b y) (h : isQ a b = some k) :
    (y = .non ∧ decide (x = .non) = k) ∨ ∃ p q, x = .bl p ∧ y = .bl q ∧ decide (p = q) = k := by
  cases rb with
  | non => cases ra <;> simp [isQ] at h <;> subst h <;> exact .inl ⟨rfl, by simp⟩
  | bl q =>
    cases ra <;> simp [isQ] at h
    subst h
    exact .inr ⟨_, _, rfl, rfl, by simp⟩
  | _ => cases ra <;> simp [isQ] at h
theorem inQ_seq {K : Frg} {ρ : List Addr} {G H : Hp} {a b : D} {x y : V} {k : Bool} (hs : Same G H) (ra : Rp K ρ G a x) (rb : Rp K ρ G b y) (h : inQ a b = some k) :
    (∃ i j, x = .str i ∧ y = .str j ∧ strIn i j = k) ∨
    (∃ d ds, Dp K H x d ∧ (Dp K H y (.list ds) ∨ Dp K H y (.tuple ds)) ∧ SeqAt.shaped d = true ∧ SeqAt.shaped (.list ds) = true ∧ (ds.any fun z => PyData.eqv z d) = k) := by
  have go : ∀ (ys : List D), (if a.fit && (D.lst ys).fit then some (memD a ys) else none) = some k → ∀ {p : Addr} {vs : List V}, Rps K ρ G ys vs → y = .ref p → (G p = some (.lst vs) ∨ G p = some (.tup vs)) →
      ∃ d ds, Dp K H x d ∧ (Dp K H y (.list ds) ∨ Dp K H y (.tuple ds)) ∧ SeqAt.shaped d = true ∧ SeqAt.shaped (.list ds) = true ∧ (ds.any fun z => PyData.eqv z d) = k := by
    intro ys hq p vs rv ey hp
    split at hq
    · rename_i c
      simp only [Bool.and_eq_true] at c
      obtain ⟨c1, s1⟩ := fit_shaped c.1
      obtain ⟨c2, s2⟩ := fit_shaped c.2
      refine ⟨a.toP, toPs ys, ra.dp hs c1, ?_, s1, by simpa only [D.toP] using s2, ?_⟩
      · subst ey
        have r2 := rv.dp hs (by simpa only [D.isData] using c2)
        rcases hp with hp | hp
        · exact .inl (.lst (.inl (.inl (hs _ _ hp))) r2)
        · exact .inr (.tup (SqT.up hs hp) r2)
      · rw [← memD_any]; simpa using hq
    · cases hq
  cases rb with
  | str j =>
    cases ra with
    | str i => simp [inQ] at h; exact .inl ⟨i, j, rfl, rfl, h⟩
    | _ => simp [inQ] at h
  | lst sb rb =>
    refine .inr (go _ (by cases ra <;> simpa only [inQ] using h) rb rfl (.inl sb))
  | tup sb rb =>
    refine .inr (go _ (by cases ra <;> simpa only [inQ] using h) rb rfl (.inr sb))
  | non => cases ra <;> simp [inQ] at h
  | bl _ => cases ra <;> simp [inQ] at h
  | int _ => cases ra <;> simp [inQ] at h
  | scr _ => cases ra <;> simp [inQ] at h
  | dic _ _ _ => cases ra <;> simp [inQ] at h
  | ref _ => cases ra <;> simp [inQ] at h
  | exc _ _ _ => cases ra <;> simp [inQ] at h
  | exb _ => cases ra <;> simp [inQ] at h
  | dcs _ _ => cases ra <;> simp [inQ] at h

theorem cmp_ok (hu : X.A.units + 65 < cLine) (o : Cop) : OpR X (compareOp (cpA o)) (rCp X.K (cmpD o)) := by
  intro pins s σ H x y v u Q I rx ry h
  obtain ⟨ρ, G, a, b, k, hs, ra, rb, hd, q⟩ := h
  have eqc : ∀ {k : Bool}, eqQ a b = some k → ∃ d e, Dp X.K H x d ∧ Dp X.K H y e ∧ SeqAt.shaped d = true ∧ SeqAt.shaped e = true ∧ PyData.eqv d e = k := by
    intro k h
    unfold eqQ at h
    split at h
    · rename_i c
      simp only [Bool.and_eq_true] at c
      obtain ⟨c1, s1⟩ := fit_shaped c.1
      obtain ⟨c2, s2⟩ := fit_shaped c.2
      exact ⟨_, _, ra.dp hs c1, rb.dp hs c2, s1, s2, Option.some.inj h⟩
    · cases h
  cases o with
  | eq =>
    obtain ⟨d, e, h1, h2, h3, h4, h5⟩ := eqc hd
    subst h5
    exact op_eqD (by omega) pins s σ H x y v u Q I rx ry ⟨d, e, h1, h2, h3, h4, q⟩
  | ne =>
    simp only [cmpD, Option.map_eq_some_iff] at hd
    obtain ⟨k', hd, rfl⟩ := hd
    obtain ⟨d, e, h1, h2, h3, h4, h5⟩ := eqc hd
    subst h5
    exact op_neD (by omega) pins s σ H x y v u Q I rx ry ⟨d, e, h1, h2, h3, h4, q⟩
  | lt =>
    simp only [cmpD, ltD] at hd
    split at hd
    · cases ra; cases rb; cases hd
      exact op_lt pins s σ H _ _ v u Q I rx ry ⟨_, _, rfl, rfl, q⟩
    · split at hd
      · rename_i h1 h2
        cases ra with
        | tup sa ra =>
        cases rb with
        | tup sb rb =>
        cases hd
        exact op_ltT (by omega) pins s σ H _ _ v u Q I rx ry ⟨_, _, _, _, rfl, rfl, by rw [← ra.ints h1]; exact SqT.up hs sa, by rw [← rb.ints h2]; exact SqT.up hs sb, q⟩
      · cases hd
    · cases hd
  | le =>
    simp only [cmpD, leD] at hd
    split at hd
    · cases ra; cases rb; cases hd
      exact op_le pins s σ H _ _ v u Q I rx ry ⟨_, _, rfl, rfl, q⟩
    · cases hd
  | gt =>
    simp only [cmpD, gtD] at hd
    split at hd
    · cases ra; cases rb; cases hd
      exact op_gt pins s σ H _ _ v u Q I rx ry ⟨_, _, rfl, rfl, q⟩
    · cases hd
  | ge =>
    simp only [cmpD, geD] at hd
    split at hd
    · cases ra; cases rb; cases hd
      exact op_ge pins s σ H _ _ v u Q I rx ry ⟨_, _, rfl, rfl, q⟩
    · cases hd
  | is =>
    rcases isQ_V ra rb hd with ⟨rfl, e⟩ | ⟨p, r, rfl, rfl, e⟩
    · subst e; exact op_isN pins s σ H _ _ v u Q I rx ry ⟨rfl, q⟩
    · subst e; exact op_is_bl pins s σ H _ _ v u Q I rx ry ⟨_, _, rfl, rfl, q⟩
  | isn =>
    simp only [cmpD, Option.map_eq_some_iff] at hd
    obtain ⟨k', hd, rfl⟩ := hd
    rcases isQ_V ra rb hd with ⟨rfl, e⟩ | ⟨p, r, rfl, rfl, e⟩
    · subst e; exact op_notN pins s σ H _ _ v u Q I rx ry ⟨rfl, q⟩
    · subst e; exact op_isnot_bl pins s σ H _ _ v u Q I rx ry ⟨_, _, rfl, rfl, q⟩
  | inn =>
    rcases inQ_seq hs ra rb hd with ⟨i, j, rfl, rfl, e⟩ | ⟨d, ds, h1, h2, h3, h4, e⟩
    · subst e; exact op_in_str pins s σ H _ _ v u Q I rx ry ⟨_, _, rfl, rfl, q⟩
    · subst e
      rcases h2 with h2 | h2
      · exact op_inD hu pins s σ H _ _ v u Q I rx ry ⟨d, ds, h1, h2, h3, h4, q⟩
      · obtain ⟨as, r1⟩ := Dp.reads I d x v h1 rx
        obtain ⟨bs, r2⟩ := Dp.reads I (.tuple ds) y u h2 ry
        exact SeqAt.in_tuple_reads r2 r1 (SeqAt.canLay_of_shaped (show SeqAt.shaped (.tuple ds) = true from h4)) (SeqAt.canLay_of_shaped h3) (room_in_shaped h3 hu) ⟨.bl _, H, I, rfl, q⟩
  | nin =>
    simp only [cmpD, Option.map_eq_some_iff] at hd
    obtain ⟨k', hd, rfl⟩ := hd
    rcases inQ_seq hs ra rb hd with ⟨i, j, rfl, rfl, e⟩ | ⟨d, ds, h1, h2, h3, h4, e⟩
    · subst e; exact op_notIn_str pins s σ H _ _ v u Q I rx ry ⟨_, _, rfl, rfl, q⟩
    · subst e
      rcases h2 with h2 | h2
      · exact op_notInD hu pins s σ H _ _ v u Q I rx ry ⟨d, ds, h1, h2, h3, h4, q⟩
      · obtain ⟨as, r1⟩ := Dp.reads I d x v h1 rx
        obtain ⟨bs, r2⟩ := Dp.reads I (.tuple ds) y u h2 ry
        exact SeqAt.notIn_tuple_reads r2 r1 (SeqAt.canLay_of_shaped (show SeqAt.shaped (.tuple ds) = true from h4)) (SeqAt.canLay_of_shaped h3) (room_in_shaped h3 hu) ⟨.bl _, H, I, rfl, q⟩
end
end PM

namespace PM
open PySem PySem.Spec PyProof.Rows L2

/-- a def's promise; gd: where no repr runs around it -/
structure FnG (gd : Bool) (P : Program) (w : World) (K : Frg) (mg : Str → Option Value) (base : Heap) (k : Nat) (f : Addr) (fd : FuncData) (ps : List Str) (sp : Sp) : Prop where
  len : ∀ vs H Q E, sp vs H Q E → vs.length = ps.length
  run : ∀ (A : Around) (outer : List Env) (s : Shared) (H : Hp) (args : Args) (us : List Value) (vs : List V) (Q : VK) (E : XK), Room k A → (gd = true → A.guards = some []) → Env0 P w K mg base A outer s H →
    BindsTo s fd args (ps.zip us) → Vals vs us → sp vs H Q E → codeAny (model P w) A (.call (.ref f) args) (CR (L2.CX P w) outer P w H s Q E) s

section
variable {gd : Bool} {X : Cx} {k : Nat} {f : Addr} {fd : FuncData} {ps : List Str} {sp : Sp} {E : XK} {W : WX} {pins : List (Addr × Obj)} {σ : L2.St} {H : Hp} {s : Shared} {Q : VK}
/-- a call from a body -/
theorem callG {args : Args} {us : List Value} {vs : List V} (F : FnG gd X.prog X.w X.K X.mg X.base k f fd ps sp) (hr : Room k X.A) (hg : gd = true → X.A.guards = some []) (tk : Takes X W) (I : Inv X pins σ H s)
    (hb : BindsTo s fd args (ps.zip us)) (r : Vals vs us) (h : sp vs H Q E) (hE : ∀ cls d H', E cls d H' → W cls d σ H') :
    wpAny (model X.prog X.w) X.A (call (.ref f) args.pos args.kw) (EP X pins σ Q) X.xe s := by
  refine wpAny_call (codeAny_mono (F.run X.A X.stack s H args us vs Q E hr hg I.env0 hb r h) fun z s' hz => ?_)
  match z, hz with
  | .error er, hz => exact tk er s' (XE.of_call I hE hz)
  | .ok (.ret _), hz => exact I.after hz
  | .ok .next, hz => exact hz.elim
  | .ok .brk, hz => exact hz.elim
  | .ok .cont, hz => exact hz.elim
/-- a def keeps its promise, by its body -/
theorem fnG_of {P : Program} {w : World} {K : Frg} {mg : Str → Option Value} {base : Heap} {name qual : Str} {params : Arguments} {body : List Stmt} {scope : Scope} {dV kV doc pm cdv ct oc : Value} {an od : Option Addr}
    {osl : Array (Option Value)} {N : List Str} (lk : K.lookup f = some ⟨oc, od, .func (PySem.W.fnOf name qual params body scope dV kV doc pm an cdv ct), osl⟩) (hcd : PySem.W.codeIn K cdv qual = true)
    (S : FnScope N ps scope) (len : ∀ vs H Q E, sp vs H Q E → vs.length = ps.length)
    (hbody : ∀ (A : Around) (outer : List Env) (s : Shared) (H : Hp) (vs : List V) (Q : VK) (E : XK), (gd = true → A.guards = some []) → Room k (A.deeper (envOfC qual scope s.heap.objs.size f cdv)) → sp vs H Q E →
      ∃ t, PSs (cxOf (L2.CX P w) P w K mg base N qual scope f cdv A outer s H E) body t ∧ t { nx := fun _ H' => Q .non H', rt := Q } (start N vs) H) :
    FnG gd P w K mg base (k + 1) f (PySem.W.fnOf name qual params body scope dV kV doc pm an cdv ct) ps sp := by
  have F : ∀ (A0 : Around), (gd = true → A0.guards = some []) → ∀ (outer : List Env) (s : Shared) (H : Hp) (args : Args) (us : List Value) (vs : List V) (Q : VK) (E : XK), Room (k + 1) A0 → Env0 P w K mg base A0 outer s H →
      BindsTo s (PySem.W.fnOf name qual params body scope dV kV doc pm an cdv ct) args (ps.zip us) → Vals vs us → sp vs H Q E → codeAny (model P w) A0 (.call (.ref f) args) (CR (L2.CX P w) outer P w H s Q E) s := by
    intro A0 hg0 outer s H args us vs Q E hr e0 hb r hsp
    have hl := len _ _ _ _ hsp
    have KX : K.In s.heap := e0.mod.kin.keeps fun b o e => (e0.bs b o e).1
    have lim : s.heap.NoLimit := e0.mod.nolimit.keeps fun b o e => (e0.bs b o e).1
    have kinds : ∀ y ∈ ps.zip us, scope.names.lookup y.1 = some .local ∨ (scope.names.lookup y.1 = some .cell ∧ ((cellsFrom (s.heap.objs.size + 1) scope.names []).lookup y.1).isSome = true) := by
      rintro ⟨n, v⟩ hy
      exact (S.par n (List.of_mem_zip hy).1).imp id fun q => ⟨q, PySem.W.cellsFrom_some _ _ _ (.inl q)⟩
    refine codeAny_call_function hr.depth (KX _ _ lk) rfl S.co S.gen rfl (PySem.W.codeRec_of KX hcd) (hb _ _ _ _ ?_)
    refine wpAny_newFunctionEnv_cells S.kind kinds fun env he s1 x => ?_
    subst he
    refine ⟨lim.keeps x.toInCall.keep, codeAny_func ?_⟩
    obtain ⟨t, ht, hq⟩ := hbody A0 outer s H vs Q E hg0 (hr.deeper _) hsp
    have I := inv_start (CX := L2.CX P w) (E := E) (qual := qual) (f := f) (cd := cdv) S hr.hd e0 hl r x
    refine wpAny_mono (ht.run [] s1 (start N vs) H _ I hq) (fun fl s' hs => ?_) fun e s' hs => hs
    match fl, hs with
    | .ret u, ⟨v, σ', H', J, rv, q⟩ => exact ⟨v, H', J.os, J.bare, J.base, J.hok, rv, q⟩
    | .next, ⟨σ', H', J, q⟩ => exact ⟨.non, H', J.os, J.bare, J.base, J.hok, rfl, q⟩
    | .brk, ⟨_, _, _, q⟩ => exact q.elim
    | .cont, ⟨_, _, _, q⟩ => exact q.elim
  exact ⟨len, fun A outer s H args us vs Q E hr hg e0 hb r hsp => F A hg outer s H args us vs Q E hr e0 hb r hsp⟩
end

/-! ### the promise of a def by its evaluation -/
def pC (nm : Nm) (K : Frg) (ρ : List Addr) (G H : Hp) (Q : VK) (E : XK) : CO → Prop
  | .ok d M' => ∀ v H' G' ρ', Kp ρ G H ρ' G' H' → Wf nm K ρ' G' M' H' → Rp K ρ' G' d v → Q v H'
  | .err k fv M' => ∀ H' G' ρ' dx, Kp ρ G H ρ' G' H' → Wf nm K ρ' G' M' H' → ErrRep nm K ρ' G' H' dx fv → E (.ref (nm.exc k)) dx H'
  | .bad => False
def spD (nm : Nm) (K : Frg) (n : Nat) (f : List D → List MO → CO) : Sp := fun vs H Q E => vs.length = n ∧ ∃ ρ G M ds, Wf nm K ρ G M H ∧ Rps K ρ G ds vs ∧ pC nm K ρ G H Q E (f ds M)
end PM

namespace PM
open PySem PySem.Spec PyProof.Rows L2

/-- what the text's numbers do -/
structure Prg where
  call : Nat → List D → List MO → CO
  glob : Nat → Option D
  bi : Bi → List D → Option D
  mt : Mt → D → List D → Option D
  wf : Nat

def lift {α : Type} (o : Option α) (e : Ev) (M : List MO) : Out α := match o with
  | some a => .ok a e M
  | none => .bad
def CO.out (e : Ev) : CO → Out D
  | .ok d M => .ok d e M
  | .err k fv M => .err k fv e M
  | .bad => .bad

/-- a name is read: an own list is frozen -/
def rdV (i : Nat) (e : Ev) (M : List MO) : Out D := match e[i]? with
  | some (.val d) => .ok d e M
  | some (.own xs) => .ok (.lst xs) (e.set i (.val (.lst xs))) M
  | _ => .bad
/-- a name is looked at -/
def lkV (i : Nat) (e : Ev) : Option D := match e[i]? with
  | some (.val d) => some d
  | some (.own xs) => some (.lst xs)
  | _ => none

def Tg.ns : Tg → List Nat
  | .nm i => [i]
  | .tp l => l
def setT (t : Tg) (x : D) (e : Ev) : Option Ev := match t with
  | .nm i => some (e.set i (.val x))
  | .tp l => match x with
    | .tup xs => if xs.length = l.length then some ((l.zip xs).foldl (fun e p => e.set p.1 (.val p.2)) e) else none
    | _ => none

def isOwn : Sl → Bool
  | .own _ => true
  | _ => false
/-- a comprehension's block: own lists are not seen, its own names are forgotten -/
def blkE (vs : List Nat) (e : Ev) : Ev := vs.foldr (fun v e => e.set v .non) (e.map fun s => if isOwn s then .non else s)

def cmpL (f : D → List MO → Out (Option D)) : List D → List D → List MO → Out (List D)
  | [], acc, M => .ok acc [] M
  | x :: r, acc, M => (f x M).bind fun o _ M => cmpL f r (match o with | some y => acc ++ [y] | none => acc) M

/-- in a comprehension nothing is raised -/
def noErr {α : Type} : Out α → Out α
  | .err _ _ _ _ => .bad
  | x => x
def compF (vs : List Nat) (t : Tg) (c : Ev → List MO → Out Bool) (f : Ev → List MO → Out D) (e : Ev) (x : D) (M : List MO) : Out (Option D) := match setT t x (blkE vs e) with
  | none => .bad
  | some e1 => (noErr (c e1 M)).bind fun k e2 M => match k with
    | true => (noErr (f e2 M)).bind fun y e3 M => .ok (some y) e3 M
    | false => .ok none e2 M
/-- the class and the fields of an instance -/
def insOf (d : D) (M : List MO) : Option (Nat × Nat × List (Nat × D)) := match d with
  | .ref i => match M[i]? with
    | some (.ins c fs) => some (i, c, fs)
    | _ => none
  | _ => none
def fldD (d : D) (f : Nat) (M : List MO) : Option D := (insOf d M).bind fun q => q.2.2.lookup f
def putD (f : Nat) (v : D) : List (Nat × D) → List (Nat × D)
  | [] => [(f, v)]
  | (g, u) :: r => if f = g then (g, v) :: r else (g, u) :: putD f v r

def cutD {α : Type} (xs : List α) (lo hi : Option Int) : List α := (xs.drop (HT.sIx xs.length 0 lo)).take (HT.sIx xs.length xs.length hi - HT.sIx xs.length 0 lo)
def sliceD (d : D) (lo hi : Option Int) : Option D := match d with
  | .tup xs => some (.tup (cutD xs lo hi))
  | .lst xs => some (.lst (cutD xs lo hi))
  | .scr xs => some (.lst ((cutD xs lo hi).map .int))
  | _ => none
/-- a dict's value at a key -/
def dicGet (k : List Int) : List (List Int) → List D → Option D
  | a :: r, v :: s => if a = k then some v else dicGet k r s
  | _, _ => none
def subD' (d i : D) (M : List MO) : Option D := match d, i with
  | .tup xs, .int i => atI xs i
  | .lst xs, .int i => atI xs i
  | .ref j, .int i => match M[j]? with
    | some (.lst xs) => atI xs i
    | _ => none
  | .dic ks vs, .tup xs => (intsD xs).bind fun k => dicGet k ks vs
  | _, _ => none
/-- a value's type by its name -/
def tyN : D → Option String
  | .non => some "NoneType"
  | .bl _ => some "bool"
  | .int _ => some "int"
  | .str _ => some "str"
  | .tup _ => some "tuple"
  | .lst _ => some "list"
  | _ => none
def isiB (T : String) : Ty → Bool
  | .int => T == "int" || T == "bool"
  | .bool => T == "bool"
  | .str => T == "str"
  | .tuple => T == "tuple"
  | .list => T == "list"
  | .own _ => false
def isiD (d : D) (ty : Ty) (M : List MO) : Option Bool := match tyN d with
  | some T => some (isiB T ty)
  | none => match insOf d M with
    | some (_, k, _) => match ty with
      | .own c => if k = c then some true else none
      | _ => some false
    | none => none
/-- what a method is called on -/
def rcvB : Mt → D → Bool
  | .index, .lst _ => true
  | .count, .lst _ => true
  | .join, .str _ => true
  | .split, .str _ => true
  | .sindex, .str _ => true
  | _, _ => false
def rngD (a b : D) : Option (List D) := match a, b with
  | .int a, .int b => if decide (-1000000 ≤ a) && decide (a ≤ 1000000) && decide (-1000000 ≤ b) && decide (b ≤ 1000000) then some ((List.range (b - a).toNat).map fun (i : Nat) => .int (a + (i : Int))) else none
  | _, _ => none
def seqD : D → Option (List D)
  | .tup xs => some xs
  | .lst xs => some xs
  | _ => none
def zipD (a b : D) : Option (List D) := match a, b with
  | .tup xs, .tup ys => some ((xs.zip ys).map fun p => .tup [p.1, p.2])
  | .lst xs, .lst ys => some ((xs.zip ys).map fun p => .tup [p.1, p.2])
  | .lst xs, .tup ys => some ((xs.zip ys).map fun p => .tup [p.1, p.2])
  | .tup xs, .lst ys => some ((xs.zip ys).map fun p => .tup [p.1, p.2])
  | _, _ => none
def rngDs1 : List D → Option (List D)
  | [b] => rngD (.int 0) b
  | _ => none
def rngDs2 : List D → Option (List D)
  | [a, b] => rngD a b
  | _ => none
def zipDs : List D → Option (List D)
  | [a, b] => zipD a b
  | _ => none
def enmDs : List D → Option (List D)
  | [.lst xs] => some (xs.zipIdx.map fun p => .tup [.int p.2, p.1])
  | _ => none

section
variable (P : Prg)
mutual
def ev : Ex → Ev → List MO → Out D
  | .non, e, M => .ok .non e M
  | .bl b, e, M => .ok (.bl b) e M
  | .int i, e, M => .ok (.int i) e M
  | .str x, e, M => .ok (.str x) e M
  | .var i, e, M => rdV i e M
  | .glob g, e, M => lift (P.glob g) e M
  | .tup es, e, M => (evs es e M).bind fun ds e M => if ds.length ≤ lim then .ok (.tup ds) e M else .bad
  | .lst es, e, M => (evs es e M).bind fun ds e M => if ds.length ≤ lim then .ok (.lst ds) e M else .bad
  | .mls es, e, M => (evs es e M).bind fun ds e M => if ds.length ≤ lim then .ok (.ref M.length) e (M ++ [.lst ds]) else .bad
  | .dic ks vs, e, M => .bad
  | .bop o a b, e, M => (ev a e M).bind fun x e M => (ev b e M).bind fun y e M => lift (bopD o x y) e M
  | .neg a, e, M => (ev a e M).bind fun x e M => match x with | .int i => .ok (.int (-i)) e M | _ => .bad
  | .not a, e, M => (ev a e M).bind fun x e M => lift ((truthD x).map fun b => .bl (!b)) e M
  | .cmp o a b, e, M => (ev a e M).bind fun x e M => (ev b e M).bind fun y e M => lift ((cmpD o x y).map .bl) e M
  | .chn o p a b c, e, M => (ev a e M).bind fun x e M => (ev b e M).bind fun y e M => (lift (cmpD o x y) e M).bind fun k e M => match k with
      | true => (ev c e M).bind fun z e M => lift ((cmpD p y z).map .bl) e M
      | false => .ok (.bl false) e M
  | .and a b, e, M => (ev a e M).bind fun x e M => match x with
      | .bl true => ev b e M
      | .bl false => .ok (.bl false) e M
      | _ => .bad
  | .or a b, e, M => (ev a e M).bind fun x e M => match x with
      | .bl true => .ok (.bl true) e M
      | .bl false => ev b e M
      | _ => .bad
  | .ife t a b, e, M => (evt t e M).bind fun k e M => match k with | true => ev a e M | false => ev b e M
  | .idx a i, e, M => (ev a e M).bind fun x e M => (ev i e M).bind fun y e M => lift (subD' x y M) e M
  | .slc a lo hi, e, M => (ev a e M).bind fun x e M => (evo lo e M).bind fun l e M => (evo hi e M).bind fun h e M => lift (sliceD x l h) e M
  | .bi f es, e, M => (evs es e M).bind fun ds e M => lift (P.bi f ds) e M
  | .mt f a es, e, M => (ev a e M).bind fun x e M => if rcvB f x then (evs es e M).bind fun ds e M => lift (P.mt f x ds) e M else .bad
  | .isi a t, e, M => (ev a e M).bind fun x e M => lift ((isiD x t M).map .bl) e M
  | .call g es, e, M => (evs es e M).bind fun ds e M => (P.call g ds M).out e
  | .callk g es ks, e, M => .bad
  | .mk c es, e, M => .bad
  | .fld a f, e, M => (ev a e M).bind fun x e M => lift (fldD x f M) e M
  | .mcall a c m es, e, M => .bad
  | .comp vs elt tg it cond, e, M => (evi it e M).bind fun xs e M => if xs.length ≤ lim then
      (cmpL (compF vs tg (fun e M => evc cond e M) (fun e M => ev elt e M) e) xs [] M).bind fun l _ M => .ok (.lst l) e M else .bad
  | .comp2 vs elt tg it tg2 it2 cond, e, M => .bad
/-- a test -/
def evt : Te → Ev → List MO → Out Bool
  | .tr x, e, M => (ev x e M).bind fun d e M => lift (truthD d) e M
  | .and a b, e, M => (evt a e M).bind fun k e M => match k with | true => evt b e M | false => .ok false e M
  | .or a b, e, M => (evt a e M).bind fun k e M => match k with | true => .ok true e M | false => evt b e M
  | .not a, e, M => (evt a e M).bind fun b e M => .ok (!b) e M
def evc : Cn → Ev → List MO → Out Bool
  | .no, e, M => .ok true e M
  | .so t, e, M => evt t e M
def evo : Op' → Ev → List MO → Out (Option Int)
  | .no, e, M => .ok none e M
  | .so x, e, M => (ev x e M).bind fun d e M => match d with | .int i => .ok (some i) e M | _ => .bad
def evs : Exs → Ev → List MO → Out (List D)
  | .nil, e, M => .ok [] e M
  | .cons false x r, e, M => (ev x e M).bind fun d e M => (evs r e M).bind fun ds e M => .ok (d :: ds) e M
  | .cons true x r, e, M => (ev x e M).bind fun d e M => (lift (seqD d) e M).bind fun xs e M => (evs r e M).bind fun ds e M => .ok (xs ++ ds) e M
def evi : It' → Ev → List MO → Out (List D)
  | .seq x, e, M => (ev x e M).bind fun d e M => lift (seqD d) e M
  | .rng1 es, e, M => (evs es e M).bind fun ds e M => lift (rngDs1 ds) e M
  | .rng2 es, e, M => (evs es e M).bind fun ds e M => lift (rngDs2 ds) e M
  | .zip es, e, M => (evs es e M).bind fun ds e M => lift (zipDs ds) e M
  | .enm es, e, M => (evs es e M).bind fun ds e M => lift (enmDs ds) e M
end
end
end PM

namespace PM
open PySem PySem.Spec PyProof.Rows L2
section
variable {nm : Nm} {K : Frg} {ρ ρ' : List Addr} {G G' H H' : Hp} {M M' : List MO} {fr : Fr} {e e' : Ev} {σ σ' : L2.St}
/-- an own list is frozen -/
theorem SR.freeze (r : SR nm K fr ρ G e M σ H) {i : Nat} {xs : List D} (hi : e[i]? = some (.own xs)) :
    ∃ a G', Same G G' ∧ σ[i]? = some (some (.ref a)) ∧ SR nm K fr ρ G' (e.set i (.val (.lst xs))) M σ H ∧ Rp K ρ G' (.lst xs) (.ref a) := by
  obtain ⟨a, vs, h1, h2, h3, h4, h5, h6⟩ := r.owns i xs hi
  have g : Same G (upd G a (.lst vs)) := Same.upd h2
  have ra : Rp K ρ (upd G a (.lst vs)) (.lst xs) (.ref a) := .lst upd_same (h6.mono g (Pre.refl _))
  have hlt : i < e.length := (List.getElem?_eq_some_iff.mp hi).1
  refine ⟨a, upd G a (.lst vs), g, h1, ⟨⟨fun b u q => ?_, r.wf.len, r.wf.nd, fun b m => ?_, fun j m b hm hb => ?_, fun b ps q => ?_, r.wf.tabs, fun q hq => ?_⟩, ⟨r.kp.pre, r.kp.keep, fun b q => ?_, r.kp.grow.trans g, r.kp.nu, r.kp.live⟩, fun j d q => ?_, fun j ys q => ?_, fun j k xs' ys' b h k1 k2 k3 => ?_, by simpa using r.len⟩, ra⟩
  · by_cases hb : b = a
    · subst hb; rw [upd_same] at q; cases q; exact h5
    · rw [upd_ne hb] at q; exact r.wf.sub b u q
  · have n : b ≠ a := fun z => h4 (z ▸ m)
    rw [upd_ne n]; exact r.wf.off b m
  · exact (r.wf.obj j m b hm hb).mono g (Pre.refl _) rfl
  · by_cases hb : b = a
    · subst hb; rw [upd_same] at q; cases q
    · rw [upd_ne hb] at q; exact r.wf.gt b ps q
  · obtain ⟨k1, k2⟩ := r.wf.tfr q hq
    obtain ⟨ps, k3, _⟩ := r.wf.tabs q hq
    have n : q.1 ≠ a := fun z => by rw [z, h5] at k3; cases k3
    exact ⟨by rw [upd_ne n]; exact k1, k2⟩
  · have n : b ≠ a := fun z => h3 (z ▸ q)
    rw [upd_ne n]; exact r.kp.fresh b q
  · by_cases hj : j = i
    · subst hj
      rw [List.getElem?_set_self hlt] at q
      cases q
      exact ⟨_, h1, ra⟩
    · rw [List.getElem?_set_ne (Ne.symm hj)] at q
      obtain ⟨v, k1, k2⟩ := r.vals j d q
      exact ⟨v, k1, k2.mono g (Pre.refl _)⟩
  · have hj : j ≠ i := fun z => by
      subst z
      rw [List.getElem?_set_self hlt] at q
      cases q
    rw [List.getElem?_set_ne (Ne.symm hj)] at q
    obtain ⟨b, ws, k1, k2, k3, k4, k5, k6⟩ := r.owns j ys q
    have n : b ≠ a := fun z => hj (r.apart j i ys xs a q hi (z ▸ k1) h1)
    exact ⟨b, ws, k1, by rw [upd_ne n]; exact k2, k3, k4, k5, k6.mono g (Pre.refl _)⟩
  · have no : ∀ {j : Nat} {ys : List D}, (e.set i (.val (.lst xs)))[j]? = some (.own ys) → e[j]? = some (.own ys) := fun {j ys} q => by
      have hj : j ≠ i := fun z => by
        subst z
        rw [List.getElem?_set_self hlt] at q
        cases q
      rw [List.getElem?_set_ne (Ne.symm hj)] at q
      exact q
    exact r.apart j k xs' ys' b (no h) (no k1) k2 k3
/-- a new mutable list -/
theorem Wf.allocM (w : Wf nm K ρ G M H) {p : Addr} (hp : H p = none) {xs : List D} {vs : List V} (r : Rps K ρ G xs vs) : Wf nm K (ρ ++ [p]) G (M ++ [.lst xs]) (upd H p (.lst vs)) where
  sub := fun b u q => by rw [upd_ne (ne_of_none (w.sub b u q) hp)]; exact w.sub b u q
  len := by simp [w.len]
  nd := List.nodup_append.mpr ⟨w.nd, by simp, fun a ha b hb z => by
    have : b = p := by simpa using hb
    subst this; subst z
    exact w.nin_of hp ha⟩
  off := fun a m => by
    rcases List.mem_append.mp m with m | m
    · have n : a ≠ p := fun z => w.nin_of hp (z ▸ m)
      exact ⟨(w.off a m).1, (w.off a m).2.wr n⟩
    · have : a = p := by simpa using m
      subst this
      exact ⟨w.none_of hp, NT.lst upd_same⟩
  obj := fun i m a hm ha => by
    by_cases hi : i < M.length
    · rw [List.getElem?_append_left hi] at hm
      rw [List.getElem?_append_left (by rw [w.len]; exact hi)] at ha
      have n : a ≠ p := fun z => w.nin_of hp (z ▸ List.mem_of_getElem? ha)
      exact (w.obj i m a hm ha).mono (Same.refl _) (Pre.push _ _) (upd_ne n)
    · rw [List.getElem?_append_right (by omega)] at hm
      rw [List.getElem?_append_right (by rw [w.len]; omega), w.len] at ha
      have hz : i - M.length = 0 := by
        cases q : i - M.length with
        | zero => rfl
        | succ n => rw [q] at hm; simp at hm
      rw [hz] at hm ha
      simp at hm ha
      subst hm; subst ha
      exact ⟨vs, upd_same, r.mono (Same.refl _) (Pre.push _ _)⟩
  gt := w.gt
  tabs := tab_upd w.tabs hp
  tfr := fun q hq => by
    obtain ⟨h1, h2⟩ := w.tfr q hq
    obtain ⟨ps, h3, _⟩ := w.tabs q hq
    refine ⟨h1, fun z => ?_⟩
    rcases List.mem_append.mp z with z | z
    · exact h2 z
    · have : q.1 = p := by simpa using z
      rw [this, hp] at h3; cases h3
theorem Kp.allocM (w : Wf nm K ρ G M H) {p : Addr} (hp : H p = none) (o : HO) : Kp ρ G H (ρ ++ [p]) G (upd H p o) where
  pre := Pre.push _ _
  keep := fun a u q _ _ => by rw [upd_ne (ne_of_none q hp)]; exact q
  fresh := fun a q => rfl
  grow := Same.refl _
  nu := fun a m => by
    rcases List.mem_append.mp m with m | m
    · exact .inl m
    · have : a = p := by simpa using m
      subst this; exact .inr (NT.no hp)
  live := fun a q => q.wr (q.ne hp)
end

/-- what a body's context must have -/
structure GX (X : Cx) : Prop where
  nd : X.N.Nodup
  calm : X.calm = true
  hu : X.A.units + 65 < cLine

section
variable {X : Cx} {nm : Nm} {W : WX} {pos : Pos}
theorem _root_.L2.PE.imp {x : Expr} {t t' : TE} (h : PE X x t) (k : ∀ σ H Q, t' σ H Q → t σ H Q) : PE X x t' := ⟨fun pins s σ H Q I q => h.run pins s σ H Q I (k σ H Q q)⟩
theorem _root_.L2.PT.imp {x : Expr} {t t' : TT} (h : PT X x t) (k : ∀ σ H Q, t' σ H Q → t σ H Q) : PT X x t' := ⟨fun pins s σ H Q I q => h.run pins s σ H Q I (k σ H Q q)⟩
theorem _root_.L2.PW.imp {x : Expr} {t t' : TT} (h : PW X x t) (k : ∀ σ H Q, t' σ H Q → t σ H Q) : PW X x t' := ⟨fun wh pins s σ H Q I q => h.run wh pins s σ H Q I (k σ H Q q)⟩
theorem _root_.L2.PA.imp {x : List Expr} {t t' : TA} (h : PA X x t) (k : ∀ σ H Q, t' σ H Q → t σ H Q) : PA X x t' := ⟨fun p pins s σ H Q I q => h.run p pins s σ H Q I (k σ H Q q)⟩
theorem _root_.L2.PS.imp {x : Stmt} {t t' : TS} (h : PS X x t) (k : ∀ D σ H, t' D σ H → t D σ H) : PS X x t' := ⟨fun pins s σ H D I q => h.run pins s σ H D I (k D σ H q)⟩
theorem _root_.L2.PSs.imp {x : List Stmt} {t t' : TS} (h : PSs X x t) (k : ∀ D σ H, t' D σ H → t D σ H) : PSs X x t' := ⟨fun pins s σ H D I q => h.run pins s σ H D I (k D σ H q)⟩

/-- a value that needs no heap -/
theorem tE.const {d : D} {v : V} {σ : L2.St} {H : Hp} {Q : VK} (hv : ∀ ρ G, Rp X.K ρ G d v) (h : tE nm X.K W (fun e M => .ok d e M) σ H Q) : Q v H := by
  obtain ⟨fr, ρ, G, e, M, r, h⟩ := h
  exact h v H G ρ (Same.refl _) (Pre.refl _) r (hv ρ G)
theorem sE_non {j} : PE X (.Constant .none j pos) (tE nm X.K W fun e M => .ok .non e M) := pe_non.imp fun _ _ _ h => tE.const (fun _ _ => .non) h
theorem sE_bl {b j} : PE X (.Constant (.bool b) j pos) (tE nm X.K W fun e M => .ok (.bl b) e M) := pe_bl.imp fun _ _ _ h => tE.const (fun _ _ => .bl b) h
theorem sE_int {i j} : PE X (.Constant (.int i) j pos) (tE nm X.K W fun e M => .ok (.int i) e M) := pe_int.imp fun _ _ _ h => tE.const (fun _ _ => .int i) h
theorem sE_str {x j} : PE X (.Constant (.str x) j pos) (tE nm X.K W fun e M => .ok (.str x) e M) := pe_str.imp fun _ _ _ h => tE.const (fun _ _ => .str x) h
theorem sE_var {i : Nat} {x : Str} (hN : X.N[i]? = some x) (hv : Vis X.env.scope x) (hd : (x == ("__debug__" : Str)) = false) (hc : (x == ("__classdict__" : Str)) = false) : PE X (.Name x pos) (tE nm X.K W (rdV i)) := by
  refine (pe_var hN hv hd hc).imp fun σ H Q h => ?_
  obtain ⟨fr, ρ, G, e, M, r, h⟩ := h
  unfold rdV at h
  cases q : e[i]? with
  | none => rw [q] at h; exact h.elim
  | some sl =>
    rw [q] at h
    cases sl with
    | non => exact h.elim
    | val d =>
      obtain ⟨v, h1, h2⟩ := r.vals i d q
      exact ⟨v, h1, h v H G ρ (Same.refl _) (Pre.refl _) r h2⟩
    | own xs =>
      obtain ⟨a, G', g, h1, r', rv⟩ := r.freeze q
      exact ⟨_, h1, h _ H G' ρ g (Pre.refl _) r' rv⟩
theorem sE_glob {x : Str} {u : Value} {v : V} {d : Option D} (hg : Gl X x) (hm : X.mg x = some u) (ru : RelV v u) (hd : (x == ("__debug__" : Str)) = false) (rv : ∀ d', d = some d' → ∀ ρ G, Rp X.K ρ G d' v) :
    PE X (.Name x pos) (tE nm X.K W fun e M => lift d e M) := by
  refine (pe_glob hg hm ru hd).imp fun σ H Q h => ?_
  obtain ⟨fr, ρ, G, e, M, r, h⟩ := h
  cases q : d with
  | none => rw [q] at h; exact h.elim
  | some d' =>
    rw [q] at h
    exact h v H G ρ (Same.refl _) (Pre.refl _) r (rv d' q ρ G)
variable {a b c : Expr} {fa fb fc : Ev → List MO → Out D} {ft : Ev → List MO → Out Bool}
/-- two values, then an operation by values that may lay new things -/
theorem bin_step {fr : Fr} {ρ : List Addr} {G H : Hp} {e : Ev} {M : List MO} {σ : L2.St} {Q : VK} {g : D → D → Option D} {r : R2} (hr : ∀ x y H Q, rOp X.K g x y H Q → r x y H Q)
    (s : SR nm X.K fr ρ G e M σ H) (h : pG nm X.K fr W (gdE nm X.K fr σ Q) ρ G ((fa e M).bind fun x e M => (fb e M).bind fun y e M => lift (g x y) e M)) :
    tOp r (tE nm X.K W fa) (tE nm X.K W fb) σ H Q := by
  refine tE.bind gdE_mono s h fun ρ1 G1 e1 M1 d1 v1 H1 g1 p1 s1 r1 h1 => ?_
  refine tE.bind gdE_mono s1 h1 fun ρ2 G2 e2 M2 d2 v2 H2 g2 p2 s2 r2 h2 => hr _ _ _ _ ?_
  cases q : g d1 d2 with
  | none => rw [q] at h2; exact h2.elim
  | some d =>
    rw [q] at h2
    exact ⟨ρ2, G2, d1, d2, d, s2.wf.sub, r1.mono g2 p2, r2, q, fun v H' G' n rv => h2 v H' G' ρ2 (n.both s2.wf.sub |>.1.trans (Same.refl _)) (Pre.refl _) (s2.new n) rv⟩
theorem sE_bop {o : Bop} (ha : PE X a (tE nm X.K W fa)) (hb : PE X b (tE nm X.K W fb)) :
    PE X (.BinOp a (opA o) b pos) (tE nm X.K W fun e M => (fa e M).bind fun x e M => (fb e M).bind fun y e M => lift (bopD o x y) e M) :=
  (pe_op (bop_ok o) ha hb).imp fun σ H Q ⟨fr, ρ, G, e, M, s, h⟩ => bin_step (fun _ _ _ _ h => h) s h
theorem rCp_rOp {g : D → D → Option Bool} {x y : V} {H : Hp} {Q : VK} (h : rOp X.K (fun a b => (g a b).map .bl) x y H Q) : rCp X.K g x y H Q := by
  obtain ⟨ρ, G, a, b, d, hs, ra, rb, e, q⟩ := h
  simp only [Option.map_eq_some_iff] at e
  obtain ⟨k, e, rfl⟩ := e
  exact ⟨ρ, G, a, b, k, hs, ra, rb, e, q.sc (.bl k)⟩
theorem sE_cmp (g : GX X) {o : Cop} (ha : PE X a (tE nm X.K W fa)) (hb : PE X b (tE nm X.K W fb)) (hm : behindInMarks (cpA o) b = false) :
    PE X (.Compare a [cpA o] [b] pos) (tE nm X.K W fun e M => (fa e M).bind fun x e M => (fb e M).bind fun y e M => lift ((cmpD o x y).map .bl) e M) :=
  (pe_cmpR (cmp_ok g.hu o) ha hb hm).imp fun σ H Q ⟨fr, ρ, G, e, M, s, h⟩ => bin_step (g := fun x y => (cmpD o x y).map .bl) (fun _ _ _ _ h => rCp_rOp h) s h
theorem sE_neg (ha : PE X a (tE nm X.K W fa)) : PE X (.UnaryOp .USub a pos) (tE nm X.K W fun e M => (fa e M).bind fun x e M => match x with | .int i => .ok (.int (-i)) e M | _ => .bad) := by
  refine (pe_un un_neg ha).imp fun σ H Q ⟨fr, ρ, G, e, M, s, h⟩ => ?_
  refine tE.bind gdE_mono s h fun ρ1 G1 e1 M1 d1 v1 H1 g1 p1 s1 r1 h1 => ?_
  cases r1 with
  | int i => exact ⟨i, rfl, h1 _ _ G1 ρ1 (Same.refl _) (Pre.refl _) s1 (.int _)⟩
  | _ => exact h1.elim
/-- truth, by values -/
theorem tru_of {ρ : List Addr} {G H : Hp} {d : D} {v : V} {k : Bool} (hs : Same G H) (r : Rp X.K ρ G d v) (h : truthD d = some k) : TruV X.K v H k := by
  cases r with
  | non => simp only [truthD, Option.some.injEq] at h; exact h.symm
  | bl b => simp only [truthD, Option.some.injEq] at h; exact h.symm
  | int i => simp only [truthD, Option.some.injEq] at h; exact h.symm
  | str x =>
    simp only [truthD] at h
    split at h
    · rename_i c
      exact ⟨Nat.le_trans c lim_line, (Option.some.inj h).symm⟩
    · cases h
  | tup s r =>
    simp only [truthD, Option.some.injEq] at h; subst h
    refine .inr (.inl ⟨_, SqT.up hs s, ?_⟩)
    cases r <;> rfl
  | lst s r =>
    simp only [truthD, Option.some.injEq] at h; subst h
    refine .inl ⟨_, .inl (.inl (hs _ _ s)), ?_⟩
    cases r <;> rfl
  | scr s => simp [truthD] at h
  | dic _ _ _ => simp [truthD] at h
  | ref e => simp [truthD] at h
  | exc _ _ _ => simp [truthD] at h
  | exb _ => simp [truthD] at h
  | dcs _ _ => simp [truthD] at h
theorem sE_not (ha : PE X a (tE nm X.K W fa)) : PE X (.UnaryOp .Not a pos) (tE nm X.K W fun e M => (fa e M).bind fun x e M => lift ((truthD x).map fun b => .bl (!b)) e M) := by
  refine (pe_notT ha).imp fun σ H Q ⟨fr, ρ, G, e, M, s, h⟩ => ?_
  refine tE.bind gdE_mono s h fun ρ1 G1 e1 M1 d1 v1 H1 g1 p1 s1 r1 h1 => ?_
  cases q : truthD d1 with
  | none => rw [q] at h1; exact h1.elim
  | some k =>
    rw [q] at h1
    exact ⟨k, tru_of s1.wf.sub r1 q, h1 _ _ G1 ρ1 (Same.refl _) (Pre.refl _) s1 (.bl _)⟩
/-- tests -/
theorem sT_tr (ha : PE X a (tE nm X.K W fa)) (he : ∀ whole, isTrue a X.env whole = (do let v ← whole; standAt a.pos; holding [v] (truthy v))) :
    PT X a (tT nm X.K W fun e M => (fa e M).bind fun x e M => lift (truthD x) e M) := by
  refine (pt_truth ha he).imp fun σ H Q ⟨fr, ρ, G, e, M, s, h⟩ => ?_
  refine tE.bind gdT_mono s h fun ρ1 G1 e1 M1 d1 v1 H1 g1 p1 s1 r1 h1 => ?_
  cases q : truthD d1 with
  | none => rw [q] at h1; exact h1.elim
  | some k =>
    rw [q] at h1
    exact ⟨k, tru_of s1.wf.sub r1 q, h1 H1 G1 ρ1 (Same.refl _) (Pre.refl _) s1⟩
theorem sT_cmp (g : GX X) {o : Cop} (ha : PE X a (tE nm X.K W fa)) (hb : PE X b (tE nm X.K W fb)) (hm : behindInMarks (cpA o) b = false) :
    PT X (.Compare a [cpA o] [b] pos) (tT nm X.K W fun e M => (fa e M).bind fun x e M => (fb e M).bind fun y e M => lift (cmpD o x y) e M) := by
  refine (pt_cmpR (cmp_ok g.hu o) ha hb hm).imp fun σ H Q ⟨fr, ρ, G, e, M, s, h⟩ => ?_
  show tTest _ σ H Q
  refine tE.bind gdT_mono s h fun ρ1 G1 e1 M1 d1 v1 H1 g1 p1 s1 r1 h1 => ?_
  refine tE.bind gdT_mono s1 h1 fun ρ2 G2 e2 M2 d2 v2 H2 g2 p2 s2 r2 h2 => ?_
  cases q : cmpD o d1 d2 with
  | none => rw [q] at h2; exact h2.elim
  | some k =>
    rw [q] at h2
    exact ⟨ρ2, G2, d1, d2, k, s2.wf.sub, r1.mono g2 p2, r2, q, k, rfl, h2 H2 G2 ρ2 (Same.refl _) (Pre.refl _) s2⟩
theorem sT_not {t : Ev → List MO → Out Bool} (ha : PT X a (tT nm X.K W t)) : PT X (.UnaryOp .Not a pos) (tT nm X.K W fun e M => (t e M).bind fun b e M => .ok (!b) e M) := by
  refine (pt_not ha).imp fun σ H Q ⟨fr, ρ, G, e, M, s, h⟩ => ?_
  exact tT.bind gdT_mono s h fun ρ1 G1 e1 M1 b H1 g1 p1 s1 h1 => h1 H1 G1 ρ1 (Same.refl _) (Pre.refl _) s1
theorem sT_and {t u : Ev → List MO → Out Bool} {rest : List Expr} (ha : PT X a (tT nm X.K W t)) (hb : PW X (.BoolOp .And (b :: rest) pos) (tT nm X.K W u)) :
    PW X (.BoolOp .And (a :: b :: rest) pos) (tT nm X.K W fun e M => (t e M).bind fun k e M => match k with | true => u e M | false => .ok false e M) := by
  refine (pw_and ha hb).imp fun σ H Q ⟨fr, ρ, G, e, M, s, h⟩ => ?_
  refine tT.bind gdT_mono s h fun ρ1 G1 e1 M1 k H1 g1 p1 s1 h1 => ?_
  cases k with
  | true => exact iteT ⟨fr, ρ1, G1, e1, M1, s1, h1⟩
  | false => exact iteF (h1 H1 G1 ρ1 (Same.refl _) (Pre.refl _) s1)
theorem sT_or {t u : Ev → List MO → Out Bool} {rest : List Expr} (ha : PT X a (tT nm X.K W t)) (hb : PW X (.BoolOp .Or (b :: rest) pos) (tT nm X.K W u)) :
    PW X (.BoolOp .Or (a :: b :: rest) pos) (tT nm X.K W fun e M => (t e M).bind fun k e M => match k with | true => .ok true e M | false => u e M) := by
  refine (pw_or ha hb).imp fun σ H Q ⟨fr, ρ, G, e, M, s, h⟩ => ?_
  refine tT.bind gdT_mono s h fun ρ1 G1 e1 M1 k H1 g1 p1 s1 h1 => ?_
  cases k with
  | false => exact iteF ⟨fr, ρ1, G1, e1, M1, s1, h1⟩
  | true => exact iteT (h1 H1 G1 ρ1 (Same.refl _) (Pre.refl _) s1)
theorem sE_and {rest : List Expr} (ha : PE X a (tE nm X.K W fa)) (hb : PE X (.BoolOp .And (b :: rest) pos) (tE nm X.K W fb)) :
    PE X (.BoolOp .And (a :: b :: rest) pos) (tE nm X.K W fun e M => (fa e M).bind fun x e M => match x with | .bl true => fb e M | .bl false => .ok (.bl false) e M | _ => .bad) := by
  refine (pe_and ha hb).imp fun σ H Q ⟨fr, ρ, G, e, M, s, h⟩ => ?_
  refine tE.bind gdE_mono s h fun ρ1 G1 e1 M1 d v H1 g1 p1 s1 r1 h1 => ?_
  cases r1 with
  | bl k =>
    cases k with
    | true => exact ⟨true, rfl, iteT ⟨fr, ρ1, G1, e1, M1, s1, h1⟩⟩
    | false => exact ⟨false, rfl, iteF (h1 _ H1 G1 ρ1 (Same.refl _) (Pre.refl _) s1 (.bl false))⟩
  | _ => exact h1.elim
theorem sE_or {rest : List Expr} (ha : PE X a (tE nm X.K W fa)) (hb : PE X (.BoolOp .Or (b :: rest) pos) (tE nm X.K W fb)) :
    PE X (.BoolOp .Or (a :: b :: rest) pos) (tE nm X.K W fun e M => (fa e M).bind fun x e M => match x with | .bl true => .ok (.bl true) e M | .bl false => fb e M | _ => .bad) := by
  refine (pe_or ha hb).imp fun σ H Q ⟨fr, ρ, G, e, M, s, h⟩ => ?_
  refine tE.bind gdE_mono s h fun ρ1 G1 e1 M1 d v H1 g1 p1 s1 r1 h1 => ?_
  cases r1 with
  | bl k =>
    cases k with
    | false => exact ⟨false, rfl, iteF ⟨fr, ρ1, G1, e1, M1, s1, h1⟩⟩
    | true => exact ⟨true, rfl, iteT (h1 _ H1 G1 ρ1 (Same.refl _) (Pre.refl _) s1 (.bl true))⟩
  | _ => exact h1.elim
theorem sE_ife (hc : PT X c (tT nm X.K W ft)) (ha : PE X a (tE nm X.K W fa)) (hb : PE X b (tE nm X.K W fb)) :
    PE X (.IfExp c a b pos) (tE nm X.K W fun e M => (ft e M).bind fun k e M => match k with | true => fa e M | false => fb e M) := by
  refine (pe_ifExp hc ha hb).imp fun σ H Q ⟨fr, ρ, G, e, M, s, h⟩ => ?_
  refine tT.bind gdE_mono s h fun ρ1 G1 e1 M1 k H1 g1 p1 s1 h1 => ?_
  cases k with
  | true => exact iteT ⟨fr, ρ1, G1, e1, M1, s1, h1⟩
  | false => exact iteF ⟨fr, ρ1, G1, e1, M1, s1, h1⟩
theorem sE_chn (g : GX X) {o p : Cop} (hm : lastMarks [cpA o, cpA p] [b, c] = false) (ha : PE X a (tE nm X.K W fa)) (hb : PE X b (tE nm X.K W fb)) (hc : PE X c (tE nm X.K W fc)) :
    PE X (.Compare a [cpA o, cpA p] [b, c] pos) (tE nm X.K W fun e M => (fa e M).bind fun x e M => (fb e M).bind fun y e M => (lift (cmpD o x y) e M).bind fun k e M => match k with
      | true => (fc e M).bind fun z e M => lift ((cmpD p y z).map .bl) e M
      | false => .ok (.bl false) e M) := by
  refine (pe_chain (cmp_ok g.hu o) (cmp_ok g.hu p) ha hb hc hm).imp fun σ H Q ⟨fr, ρ, G, e, M, s, h⟩ => ?_
  refine tE.bind gdE_mono s h fun ρ1 G1 e1 M1 d1 v1 H1 g1 p1 s1 r1 h1 => ?_
  refine tE.bind gdE_mono s1 h1 fun ρ2 G2 e2 M2 d2 v2 H2 g2 p2 s2 r2 h2 => ?_
  cases q : cmpD o d1 d2 with
  | none => rw [q] at h2; exact h2.elim
  | some k =>
    rw [q] at h2
    refine ⟨ρ2, G2, d1, d2, k, s2.wf.sub, r1.mono g2 p2, r2, q, k, rfl, ?_⟩
    cases k with
    | false => exact iteF (h2 _ H2 G2 ρ2 (Same.refl _) (Pre.refl _) s2 (.bl false))
    | true =>
      refine iteT (tE.bind gdE_mono s2 h2 fun ρ3 G3 e3 M3 d3 v3 H3 g3 p3 s3 r3 h3 => ?_)
      cases q' : cmpD p d2 d3 with
      | none => rw [q'] at h3; exact h3.elim
      | some k' =>
        rw [q'] at h3
        exact ⟨ρ3, G3, d2, d3, k', s3.wf.sub, r2.mono g3 p3, r3, q', h3 _ H3 G3 ρ3 (Same.refl _) (Pre.refl _) s3 (.bl k')⟩
end
end PM

namespace PM
open PySem PySem.Spec PyProof.Rows L2
section
variable {X : Cx} {nm : Nm} {W : WX} {pos : Pos} {a b c : Expr} {es : List Expr} {fa fb fc : Ev → List MO → Out D} {ga : Ev → List MO → Out (List D)}
theorem sA_nil : PA X [] (tA nm X.K W fun e M => .ok [] e M) := pa_nil.imp fun σ H Q ⟨fr, ρ, G, e, M, s, h⟩ => h [] H G ρ (Same.refl _) (Pre.refl _) s .nil
theorem sA_cons (ha : PE X a (tE nm X.K W fa)) (hr : PA X es (tA nm X.K W ga)) (hs : starEach (a :: es) X.env = (false, eval a X.env) :: starEach es X.env) :
    PA X (a :: es) (tA nm X.K W fun e M => (fa e M).bind fun d e M => (ga e M).bind fun ds e M => .ok (d :: ds) e M) := by
  refine (pa_cons ha hr hs).imp fun σ H Q ⟨fr, ρ, G, e, M, s, h⟩ => ?_
  refine tE.bind gdA_mono s h fun ρ1 G1 e1 M1 d1 v1 H1 g1 p1 s1 r1 h1 => ?_
  refine tA.bind gdA_mono s1 h1 fun ρ2 G2 e2 M2 ds vs H2 g2 p2 s2 r2 h2 => ?_
  exact h2 _ H2 G2 ρ2 (Same.refl _) (Pre.refl _) s2 (.cons (r1.mono g2 p2) r2)
theorem sA_star {p : Pos} (ha : PE X a (tE nm X.K W fa)) (hr : PA X es (tA nm X.K W ga)) :
    PA X (.Starred a p :: es) (tA nm X.K W fun e M => (fa e M).bind fun d e M => (lift (seqD d) e M).bind fun xs e M => (ga e M).bind fun ds e M => .ok (xs ++ ds) e M) := by
  refine (StX.pa_star ha hr).imp fun σ H Q ⟨fr, ρ, G, e, M, s, h⟩ => ?_
  refine tE.bind gdA_mono s h fun ρ1 G1 e1 M1 d1 v1 H1 g1 p1 s1 r1 h1 => ?_
  have go : ∀ {a : Addr} {xs : List D} {vs : List V}, d1 = .tup xs ∨ d1 = .lst xs → (SqT X.K H1 a vs ∨ SqL X.K H1 a vs) → Rps X.K ρ1 G1 xs vs → v1 = .ref a →
      ∃ p ys, v1 = V.ref p ∧ (SqT X.K H1 p ys ∨ SqL X.K H1 p ys) ∧ tA nm X.K W ga σ H1 fun zs H2 => Q (ys ++ zs) H2 := by
    intro a xs vs hd hp rs ev
    have hq : seqD d1 = some xs := by rcases hd with rfl | rfl <;> rfl
    rw [hq] at h1
    exact ⟨a, vs, ev, hp, tA.bind gdA_mono s1 h1 fun ρ2 G2 e2 M2 ds ws H2 g2 p2 s2 r2 h2 => h2 _ H2 G2 ρ2 (Same.refl _) (Pre.refl _) s2 ((rs.mono g2 p2).append r2)⟩
  cases r1 with
  | tup sq rs => exact go (.inl rfl) (.inl (SqT.up s1.wf.sub sq)) rs rfl
  | lst sq rs => exact go (.inr rfl) (.inr (.inl (.inl (s1.wf.sub _ _ sq)))) rs rfl
  | _ => exact h1.elim
theorem sE_tup {k : Nat} (h : PA X es (tA nm X.K W ga)) : PE X (.Tuple es k pos) (tE nm X.K W fun e M => (ga e M).bind fun ds e M => if ds.length ≤ lim then .ok (.tup ds) e M else .bad) := by
  refine (pe_tup h).imp fun σ H Q ⟨fr, ρ, G, e, M, s, h⟩ => ?_
  refine tA.bind gdE_mono s h fun ρ1 G1 e1 M1 ds vs H1 g1 p1 s1 r1 h1 => ?_
  split at h1
  · rename_i c
    refine ⟨by rw [← r1.length]; exact Nat.le_trans c lim_line, fun p hp => ?_⟩
    exact h1 _ _ _ ρ1 (Same.upd (s1.wf.none_of hp)) (Pre.refl _) (s1.alloc hp _) (.tup upd_same (r1.mono (Same.upd (s1.wf.none_of hp)) (Pre.refl _)))
  · exact h1.elim
theorem sE_lst (h : PA X es (tA nm X.K W ga)) : PE X (.List es pos) (tE nm X.K W fun e M => (ga e M).bind fun ds e M => if ds.length ≤ lim then .ok (.lst ds) e M else .bad) := by
  refine (pe_lst h).imp fun σ H Q ⟨fr, ρ, G, e, M, s, h⟩ => ?_
  refine tA.bind gdE_mono s h fun ρ1 G1 e1 M1 ds vs H1 g1 p1 s1 r1 h1 => ?_
  split at h1
  · rename_i c
    refine ⟨by rw [← r1.length]; exact Nat.le_trans c lim_line, fun p hp => ?_⟩
    exact h1 _ _ _ ρ1 (Same.upd (s1.wf.none_of hp)) (Pre.refl _) (s1.alloc hp _) (.lst upd_same (r1.mono (Same.upd (s1.wf.none_of hp)) (Pre.refl _)))
  · exact h1.elim
theorem sE_mls (h : PA X es (tA nm X.K W ga)) : PE X (.List es pos) (tE nm X.K W fun e M => (ga e M).bind fun ds e M => if ds.length ≤ lim then .ok (.ref M.length) e (M ++ [.lst ds]) else .bad) := by
  refine (pe_lst h).imp fun σ H Q ⟨fr, ρ, G, e, M, s, h⟩ => ?_
  refine tA.bind gdE_mono s h fun ρ1 G1 e1 M1 ds vs H1 g1 p1 s1 r1 h1 => ?_
  split at h1
  · rename_i c
    refine ⟨by rw [← r1.length]; exact Nat.le_trans c lim_line, fun p hp => ?_⟩
    refine h1 _ _ G1 (ρ1 ++ [p]) (Same.refl _) (Pre.push _ _) (s1.step (Kp.allocM s1.wf hp _) (s1.wf.allocM hp r1)) (.ref ?_)
    rw [← s1.wf.len]; simp
  · exact h1.elim
theorem Rps.atI {K : Frg} {ρ : List Addr} {G : Hp} {ds : List D} {vs : List V} {i : Int} {d : D} (r : Rps K ρ G ds vs) (h : atI ds i = some d) : ∃ v, L2.atI vs i = some v ∧ Rp K ρ G d v := by
  unfold L2.atI at h ⊢
  rw [← r.length]
  cases q : ixN ds.length i with
  | none => rw [q] at h; cases h
  | some k =>
    rw [q] at h
    exact r.get h
def rIx (K : Frg) : R2 := fun x y H Q => ∃ p xs i v, x = .ref p ∧ y = .int i ∧ (SqL K H p xs ∨ SqT K H p xs) ∧ L2.atI xs i = some v ∧ Q v H
theorem ix_any : IxR X (rIx X.K) := by
  intro value slice pins s σ H x y v u Q I rx ry h hs
  obtain ⟨p, xs, i, w, e1, e2, hq, e, q⟩ := h
  rcases hq with hq | hq
  · exact ix_list value slice pins s σ H x y v u Q I rx ry ⟨p, xs, i, w, e1, e2, hq, e, q⟩ hs
  · exact ix_tup value slice pins s σ H x y v u Q I rx ry ⟨p, xs, i, w, e1, e2, hq, e, q⟩ hs
def rIxT' (X : Cx) : R2 := fun x y H Q => ∃ a v, x = .ref a ∧ DGet H a y (some v) ∧ Q v H
theorem ix_dic (hu : X.A.units + 65 < cLine) : IxR X (rIxT' X) := by
  intro value slice pins s σ H x y v u Q I rx ry h hs
  obtain ⟨a, w, rfl, g, q⟩ := h
  obtain rfl : v = Value.ref a := rx
  exact tail_any (dict_typeIs I g) PySem.F.slot_dict_getitem.lookup (d_getItem (by omega) I g ry fun w' s' I' r => ⟨w, H, I', r, q⟩) hs
theorem dicGet_val {K : Frg} {ρ : List Addr} {G : Hp} : ∀ {ks : List (List Int)} {ds : List D} {kvs : List (List L2.Key × V)} {k : List Int} {d : D}, kvs.map (·.1) = ks.map (fun k => k.map Sum.inl) → Rps K ρ G ds (kvs.map (·.2)) → dicGet k ks ds = some d →
    ∃ v, valV kvs (k.map Sum.inl) = some v ∧ Rp K ρ G d v
  | [], ds, kvs, k, d, _, _, h => by cases ds <;> simp [dicGet] at h
  | a :: ks, [], kvs, k, d, _, _, h => by simp [dicGet] at h
  | a :: ks, e :: ds, kvs, k, d, hk, hr, h => by
    match kvs, hk, hr with
    | (k0, v0) :: kvs, hk, hr =>
      simp only [List.map_cons, List.cons.injEq] at hk
      obtain ⟨h1, h2⟩ := hk
      cases hr with
      | cons r1 r2 =>
        unfold dicGet at h
        split at h
        · rename_i e1
          cases h
          subst e1
          exact ⟨v0, valV_pos h1, r1⟩
        · rename_i e1
          have n : ¬ k0 = k.map Sum.inl := fun z => e1 ((List.map_inj_right fun a b h => Sum.inl.inj h).mp (h1.symm.trans z))
          rw [valV_neg n]
          exact dicGet_val h2 r2 h
theorem sE_idx (gx : GX X) (ha : PE X a (tE nm X.K W fa)) (hb : PE X b (tE nm X.K W fb)) (hp : PlainIx b) :
    PE X (.Subscript a b pos) (tE nm X.K W fun e M => (fa e M).bind fun x e M => (fb e M).bind fun y e M => lift (subD' x y M) e M) := by
  refine (pe_ix (ix_any.or (ix_dic gx.hu)) ha hb hp).imp fun σ H Q ⟨fr, ρ, G, e, M, s, h⟩ => ?_
  refine tE.bind gdE_mono s h fun ρ1 G1 e1 M1 d1 v1 H1 g1 p1 s1 r1 h1 => ?_
  refine tE.bind gdE_mono s1 h1 fun ρ2 G2 e2 M2 d2 v2 H2 g2 p2 s2 r2 h2 => ?_
  have r1' := r1.mono g2 p2
  cases q : subD' d1 d2 M2 with
  | none => rw [q] at h2; exact h2.elim
  | some d =>
    rw [q] at h2
    have fin : ∀ {p : Addr} {xs : List D} {vs : List V} {i : Int}, v1 = .ref p → v2 = .int i → (SqL X.K H2 p vs ∨ SqT X.K H2 p vs) → Rps X.K ρ2 G2 xs vs → L2.atI xs i = some d → rIx X.K v1 v2 H2 Q := by
      intro p xs vs i e1 e2 hq rs hi
      obtain ⟨v, hv, rv⟩ := rs.atI hi
      exact ⟨p, vs, i, v, e1, e2, hq, hv, h2 v H2 G2 ρ2 (Same.refl _) (Pre.refl _) s2 rv⟩
    cases r2 with
    | int i =>
      cases r1' with
      | tup sq rs => exact .inl <| fin rfl rfl (.inr (SqT.up s2.wf.sub sq)) rs (by simpa only [subD'] using q)
      | lst sq rs => exact .inl <| fin rfl rfl (.inl (.inl (.inl (s2.wf.sub _ _ sq)))) rs (by simpa only [subD'] using q)
      | @ref a j ej =>
        simp only [subD'] at q
        split at q
        · rename_i xs hm
          obtain ⟨vs, k1, k2⟩ := s2.wf.obj _ _ _ hm ej
          exact .inl <| fin rfl rfl (.inl (.inl (.inl k1))) k2 q
        · cases q
      | _ => simp [subD'] at q
    | @tup b xs ws sb rb =>
      cases r1' with
      | @dic a ks dv kvs sd ek ev =>
        simp only [subD', Option.bind_eq_some_iff] at q
        obtain ⟨k, hk, hg⟩ := q
        obtain ⟨v, hv, rv⟩ := dicGet_val ek ev hg
        have := rb.ints hk
        subst this
        refine .inr ⟨a, v, rfl, .inr ⟨kvs, k.map Sum.inl, b, .inl (s2.wf.sub _ _ sd), rfl, ?_, hv.symm⟩, h2 v H2 G2 ρ2 (Same.refl _) (Pre.refl _) s2 rv⟩
        rw [List.map_map]
        exact s2.wf.sub _ _ sb
      | _ => simp [subD'] at q
    | _ => cases r1' <;> simp [subD'] at q
theorem sE_fld {f : Nat} (ha : PE X a (tE nm X.K W fa)) (hb : attributeBase a (nm.fld f) X.env (eval a X.env) = eval a X.env) (inj : ∀ g, nm.fld g = nm.fld f → g = f)
    (hc : ∀ k, Cls X.K (nm.cls k) ∧ NoAttr X.K (nm.cls k) (nm.fld f)) :
    PE X (.Attribute a (nm.fld f) pos) (tE nm X.K W fun e M => (fa e M).bind fun x e M => lift (fldD x f M) e M) := by
  refine (pe_fld ha hb).imp fun σ H Q ⟨fr, ρ, G, e, M, s, h⟩ => ?_
  refine tE.bind gdE_mono s h fun ρ1 G1 e1 M1 d1 v1 H1 g1 p1 s1 r1 h1 => ?_
  cases r1 with
  | @ref a j ej =>
    simp only [fldD, insOf] at h1
    cases hm : M1[j]? with
    | none => rw [hm] at h1; exact h1.elim
    | some m =>
      rw [hm] at h1
      cases m with
      | ins c fs =>
        obtain ⟨dx, q, k1, k2⟩ := s1.wf.obj _ _ _ hm ej
        simp only [Option.bind_some] at h1
        cases hl : fs.lookup f with
        | none => rw [hl] at h1; exact h1.elim
        | some d =>
          rw [hl] at h1
          have look : ∀ {fs : List (Nat × D)} {q : List (Str × V)}, Rfs nm X.K ρ1 G1 fs q → fs.lookup f = some d → ∃ v, q.lookup (nm.fld f) = some v ∧ Rp X.K ρ1 G1 d v := by
            intro fs q r
            induction r with
            | nil => intro h; simp at h
            | @cons g d' v r q rd rr ih =>
              intro h
              by_cases hg : f = g
              · subst hg
                simp [List.lookup] at h
                subst h
                exact ⟨v, by simp [List.lookup], rd⟩
              · have n1 : (f == g) = false := by simpa using hg
                have n2 : (nm.fld f == nm.fld g) = false := by
                  simp only [beq_eq_false_iff_ne, ne_eq]
                  exact fun z => hg (inj g z.symm).symm
                simp only [List.lookup, n1] at h
                obtain ⟨w, h1, h2⟩ := ih h
                exact ⟨w, by simp only [List.lookup, n2]; exact h1, h2⟩
          obtain ⟨v, l1, l2⟩ := look k2 hl
          exact ⟨_, _, dx, q, v, rfl, k1, (hc c).1, (hc c).2, l1, h1 v H1 G1 ρ1 (Same.refl _) (Pre.refl _) s1 l2⟩
      | lst _ => exact h1.elim
      | dead => exact h1.elim
  | _ => exact h1.elim

theorem Rps.cut {K : Frg} {ρ : List Addr} {G : Hp} {ds : List D} {vs : List V} {lo hi : Option Int} (r : Rps K ρ G ds vs) : Rps K ρ G (cutD ds lo hi) (cutV vs lo hi) := by
  unfold cutD cutV
  rw [r.length]
  exact (r.drop _).take _
theorem Rps.ofInts {K : Frg} {ρ : List Addr} {G : Hp} : ∀ is : List Int, Rps K ρ G (is.map .int) (is.map .int)
  | [] => .nil
  | i :: r => .cons (.int i) (Rps.ofInts r)
theorem cut_ints (is : List Int) (lo hi : Option Int) : cutV (is.map V.int) lo hi = (cutD is lo hi).map V.int := by
  unfold cutD cutV
  rw [List.length_map, List.map_take, List.map_drop]
theorem cut_whole {xs : List D} {lo hi : Option Int} (h : HT.sIx xs.length 0 lo = 0 ∧ HT.sIx xs.length xs.length hi = xs.length) : cutD xs lo hi = xs := by
  unfold cutD
  rw [h.1, h.2]
  simp
def gdO (nm : Nm) (K : Frg) (fr : Fr) (σ : L2.St) (Q : Option Int → Hp → Prop) : Gd (Option Int) := fun ρ G b e M => ∀ H' G' ρ', Same G G' → Pre ρ ρ' → SR nm K fr ρ' G' e M σ H' → Q b H'
theorem gdO_mono {fr : Fr} {σ : L2.St} {Q : Option Int → Hp → Prop} : (gdO nm X.K fr σ Q).Mono := fun _ _ _ _ _ _ _ g p h H1 G1 ρ1 h1 h2 h3 => h H1 G1 ρ1 (g.trans h1) (p.trans h2) h3
def tOp' (nm : Nm) (K : Frg) (W : WX) (f : Ev → List MO → Out (Option Int)) : TO := fun σ H Q => ∃ fr ρ G e M, SR nm K fr ρ G e M σ H ∧ pG nm K fr W (gdO nm K fr σ Q) ρ G (f e M)
theorem tO.bind {α : Type} {gd : Gd α} {fr : Fr} {ρ : List Addr} {G H : Hp} {e : Ev} {M : List MO} {σ : L2.St} {f : Ev → List MO → Out (Option Int)} {k : Option Int → Ev → List MO → Out α} {R : Option Int → Hp → Prop} (hm : gd.Mono) (r : SR nm X.K fr ρ G e M σ H)
    (h : pG nm X.K fr W gd ρ G ((f e M).bind k))
    (hk : ∀ ρ' G' e' M' b H', Same G G' → Pre ρ ρ' → SR nm X.K fr ρ' G' e' M' σ H' → pG nm X.K fr W gd ρ' G' (k b e' M') → R b H') : tOp' nm X.K W f σ H R := by
  refine ⟨fr, ρ, G, e, M, r, ?_⟩
  cases q : f e M with
  | bad => rw [q] at h; exact h
  | err c fv e' M' => rw [q] at h; exact h
  | ok d e' M' =>
    rw [q] at h
    exact fun H' G' ρ' g p r' => hk ρ' G' e' M' d H' g p r' (pG.mono hm g p h)
variable {lo hi : Option Expr} {fl fh : Ev → List MO → Out (Option Int)}
theorem sO_no : PO X none (tOp' nm X.K W fun e M => .ok none e M) := ⟨fun pins s σ H Q I ⟨fr, ρ, G, e, M, r, h⟩ => po_none.run pins s σ H Q I (h H G ρ (Same.refl _) (Pre.refl _) r)⟩
theorem sO_so (ha : PE X a (tE nm X.K W fa)) : PO X (some a) (tOp' nm X.K W fun e M => (fa e M).bind fun d e M => match d with | .int i => .ok (some i) e M | _ => .bad) := ⟨fun pins s σ H Q I ⟨fr, ρ, G, e, M, r, h⟩ => by
  refine (po_some ha).run pins s σ H Q I ?_
  refine tE.bind gdO_mono r h fun ρ1 G1 e1 M1 d1 v1 H1 g1 p1 s1 r1 h1 => ?_
  cases r1 with
  | int j => exact ⟨j, rfl, h1 H1 G1 ρ1 (Same.refl _) (Pre.refl _) s1⟩
  | _ => exact h1.elim⟩
theorem sE_slc {p2 : Pos} (ha : PE X a (tE nm X.K W fa)) (hl : PO X lo (tOp' nm X.K W fl)) (hh : PO X hi (tOp' nm X.K W fh)) :
    PE X (.Subscript a (.Slice lo hi none p2) pos) (tE nm X.K W fun e M => (fa e M).bind fun x e M => (fl e M).bind fun l e M => (fh e M).bind fun h e M => lift (sliceD x l h) e M) := by
  have sl : SlR X (fun x lo hi H Q => rSlA X.K x lo hi H Q ∨ rSlL X.K x lo hi H Q) := sl_tupA.or sl_list
  refine (pe_slice sl ha hl hh).imp fun σ H Q ⟨fr, ρ, G, e, M, s, h⟩ => ?_
  refine tE.bind gdE_mono s h fun ρ1 G1 e1 M1 d1 v1 H1 g1 p1 s1 r1 h1 => ?_
  refine tO.bind gdE_mono s1 h1 fun ρ2 G2 e2 M2 l H2 g2 p2 s2 h2 => ?_
  refine tO.bind gdE_mono s2 h2 fun ρ3 G3 e3 M3 u H3 g3 p3 s3 h3 => ?_
  have r3 := r1.mono (g2.trans g3) (p2.trans p3)
  have got : ∀ {d : D}, sliceD d1 l u = some d → Got X.K ρ3 G3 H3 Q d := fun {d} q v H' G' n rv => by
    rw [q] at h3
    exact h3 v H' G' ρ3 (n.both s3.wf.sub).1 (Pre.refl _) (s3.new n) rv
  cases r3 with
  | tup sq rs =>
    refine .inl ⟨_, _, rfl, SqT.up s3.wf.sub sq, fun z => ?_, fun _ => ?_⟩
    · rw [← rs.length] at z
      have q := got (d := _) rfl
      rw [cut_whole z] at q
      exact q.sc (.tup sq rs)
    · exact (got rfl).tup s3.wf.sub rs.cut
  | lst sq rs => exact .inr ⟨_, _, rfl, .inl (.inl (s3.wf.sub _ _ sq)), (got rfl).lst s3.wf.sub rs.cut⟩
  | scr sq => exact .inr ⟨_, _, rfl, SqL.mono s3.wf.sub sq, by rw [cut_ints]; exact (got rfl).lst s3.wf.sub (Rps.ofInts _)⟩
  | _ => exact h3.elim
/-- a built-in function by values -/
def rBi (K : Frg) (g : List D → Option D) : List V → Hp → VK → Prop := fun xs H Q => ∃ ρ G ds d, Same G H ∧ Rps K ρ G ds xs ∧ g ds = some d ∧ Got K ρ G H Q d
theorem bi_step {fr : Fr} {ρ : List Addr} {G H : Hp} {e : Ev} {M : List MO} {σ : L2.St} {Q : VK} {g : List D → Option D} (s : SR nm X.K fr ρ G e M σ H)
    (h : pG nm X.K fr W (gdE nm X.K fr σ Q) ρ G ((ga e M).bind fun ds e M => lift (g ds) e M)) : tCB (rBi X.K g) (tA nm X.K W ga) σ H Q := by
  refine tA.bind gdE_mono s h fun ρ1 G1 e1 M1 ds vs H1 g1 p1 s1 r1 h1 => ?_
  cases q : g ds with
  | none => rw [q] at h1; exact h1.elim
  | some d =>
    rw [q] at h1
    exact ⟨ρ1, G1, ds, d, s1.wf.sub, r1, q, fun v H' G' n rv => h1 v H' G' ρ1 (n.both s1.wf.sub).1 (Pre.refl _) (s1.new n) rv⟩
theorem sE_bi {id : String} {x : Str} {p : Pos} {g : List D → Option D} (hc : CallR X (.builtin id) (rBi X.K g)) (hg : Gl X x) (hm : X.mg x = none) (hv : bootBuiltins x = some (.builtin id)) (hx : PA X (a :: es) (tA nm X.K W ga)) (hn : x ≠ "__name__") (hdb : (x == ("__debug__" : Str)) = false)
    (he : starEach (a :: es) X.env = (false, eval a X.env) :: starEach es X.env) (hpl : (backTo pos (starEach es X.env)).any (·.1) = false) :
    PE X (.Call (.Name x p) (a :: es) [] pos) (tE nm X.K W fun e M => (ga e M).bind fun ds e M => lift (g ds) e M) :=
  (pe_callB hc hg hm hv hx hn hdb he hpl).imp fun σ H Q ⟨fr, ρ, G, e, M, s, h⟩ => bi_step s h
theorem sE_bt {id : String} {x : Str} {p : Pos} {g : List D → Option D} (hc : CallR X (.type id) (rBi X.K g)) (hg : Gl X x) (hm : X.mg x = none) (hv : bootBuiltins x = some (.type id)) (hx : PA X (a :: es) (tA nm X.K W ga)) (hn : x ≠ "__name__") (hdb : (x == ("__debug__" : Str)) = false)
    (he : starEach (a :: es) X.env = (false, eval a X.env) :: starEach es X.env) (hpl : (backTo pos (starEach es X.env)).any (·.1) = false) :
    PE X (.Call (.Name x p) (a :: es) [] pos) (tE nm X.K W fun e M => (ga e M).bind fun ds e M => lift (g ds) e M) :=
  (pe_callTy hc hg hm hv hx hn hdb he hpl).imp fun σ H Q ⟨fr, ρ, G, e, M, s, h⟩ => bi_step s h
/-- a def's call, the arguments evaluated -/
theorem call_fin {gd : Bool} {k n : Nat} {f : Addr} {fd : FuncData} {ps : List Str} {g : List D → List MO → CO} (F : FnG gd X.prog X.w X.K X.mg X.base k f fd ps (spD nm X.K n g)) (hr : Room k X.A) (hgd : gd = true → X.A.guards = some []) (tk : Takes X W) (hb : Binds X.K fd ps [])
    (hgn : ∀ ds M, ds.length ≠ n → g ds M = .bad) {pins : List (Addr × Obj)} {fr : Fr} {us : List Value} {vs : List V} {ρ1 : List Addr} {G1 H1 : Hp} {e1 : Ev} {M1 : List MO} {ds : List D} {s1 : Shared} {σ : L2.St} {Q : VK}
    (I1 : Inv X pins σ H1 s1) (rv : Vals vs us) (s2 : SR nm X.K fr ρ1 G1 e1 M1 σ H1) (rs : Rps X.K ρ1 G1 ds vs)
    (h1 : pG nm X.K fr W (gdE nm X.K fr σ Q) ρ1 G1 ((g ds M1).out e1)) : wpAny (model X.prog X.w) X.A (call (.ref f) us []) (EP X pins σ Q) X.xe s1 := by
  have hn : ds.length = n := Classical.byContradiction fun z => by rw [hgn ds M1 z] at h1; exact h1
  have hvl : vs.length = n := by rw [← rs.length]; exact hn
  have sp : spD nm X.K n g vs H1 Q (fun cls d H' => W cls d σ H') := by
    refine ⟨hvl, ρ1, G1, M1, ds, s2.wf, rs, ?_⟩
    cases q : g ds M1 with
    | bad => rw [q] at h1; exact h1
    | ok d M2 =>
      rw [q] at h1
      exact fun v H' G' ρ' kp wf rd => h1 v H' G' ρ' (kp.grows s2.wf.sub) kp.pre (s2.step kp wf) rd
    | err c fv M2 =>
      rw [q] at h1
      exact fun H' G' ρ' dx kp wf er => h1 σ H' G' ρ' dx (kp.grows s2.wf.sub) kp.pre (s2.step kp wf) er
  have hln := F.len _ _ _ _ sp
  have hu : us.length = ps.length := by rw [← rv.length]; exact hln
  have bd := hb s1 us I1.kIn (by simpa using hu)
  rw [List.append_nil] at bd
  exact callG F hr hgd tk I1 bd rv sp (fun _ _ _ h => h)
/-- a def of the module, called -/
theorem sE_call {x : Str} {p : Pos} {gd : Bool} {k n : Nat} {f : Addr} {fd : FuncData} {ps : List Str} {g : List D → List MO → CO} (F : FnG gd X.prog X.w X.K X.mg X.base k f fd ps (spD nm X.K n g)) (hr : Room k X.A) (hgd : gd = true → X.A.guards = some []) (tk : Takes X W)
    (hb : Binds X.K fd ps []) (hgn : ∀ ds M, ds.length ≠ n → g ds M = .bad) (hg : Gl X x) (hm : X.mg x = some (.ref f)) (hk : PySem.W.keepIn X.K (.ref f) = true) (hdb : (x == ("__debug__" : Str)) = false)
    (hx : PA X (a :: es) (tA nm X.K W ga)) (he : starEach (a :: es) X.env = (false, eval a X.env) :: starEach es X.env) (hpl : (backTo pos (starEach es X.env)).any (·.1) = false) :
    PE X (.Call (.Name x p) (a :: es) [] pos) (tE nm X.K W fun e M => (ga e M).bind fun ds e M => (g ds M).out e) := by
  refine ⟨fun pins s σ H Q I ⟨fr, ρ, G, e, M, r, h⟩ => ?_⟩
  refine wpAny_Call_Name_kw (ld_glob I hg hm ?_ hdb)
  refine PySem.W.callWith_K (h₀ := X.base) I.ok.mod.kin hk (thn (hx.run pos pins s σ H (fun vs H1 => ∃ ρ1 G1 e1 M1 ds, SR nm X.K fr ρ1 G1 e1 M1 σ H1 ∧ Rps X.K ρ1 G1 ds vs ∧ pG nm X.K fr W (gdE nm X.K fr σ Q) ρ1 G1 ((g ds M1).out e1)) I
    (tA.bind gdE_mono r h fun ρ1 G1 e1 M1 ds vs H1 g1 p1 s2 r1 h1 => ⟨ρ1, G1, e1, M1, ds, s2, r1, h1⟩)) fun us s1 ⟨vs, H1, I1, rv, ρ1, G1, e1, M1, ds, s2, r1, h1⟩ => ⟨I1.kIn, ?_⟩) he hpl
  exact call_fin F hr hgd tk hb hgn I1 rv s2 r1 h1
theorem sE_call0 {x : Str} {p : Pos} {gd : Bool} {k n : Nat} {f : Addr} {fd : FuncData} {ps : List Str} {g : List D → List MO → CO} (F : FnG gd X.prog X.w X.K X.mg X.base k f fd ps (spD nm X.K n g)) (hr : Room k X.A) (hgd : gd = true → X.A.guards = some []) (tk : Takes X W)
    (hb : Binds X.K fd ps []) (hgn : ∀ ds M, ds.length ≠ n → g ds M = .bad) (hg : Gl X x) (hm : X.mg x = some (.ref f)) (hk : PySem.W.keepIn X.K (.ref f) = true) (hdb : (x == ("__debug__" : Str)) = false) :
    PE X (.Call (.Name x p) [] [] pos) (tE nm X.K W fun e M => (g [] M).out e) := by
  refine ⟨fun pins s σ H Q I ⟨fr, ρ, G, e, M, r, h⟩ => ?_⟩
  refine wpAny_Call_Name_kw (ld_glob I hg hm ?_ hdb)
  exact PySem.W.callWith_K0 I.kIn hk (call_fin (us := []) F hr hgd tk hb hgn I .nil r .nil h)
end
end PM

namespace PM
open PySem PySem.Spec PyProof.Rows L2

/-- a walk of the values ds, that stand in the frozen part G0 -/
structure WalkD (J : It) (K : Frg) (ρ0 : List Addr) (G0 : Hp) (ds : List D) : Prop where
  go : ∀ i H, i < ds.length → Same G0 H → J.go i H
  stop : ∀ H, Same G0 H → J.stop ds.length H
  yld : ∀ i H x H' d, ds[i]? = some d → Same G0 H → J.yld i H x H' → ∀ ρ G, Same G0 G → Same G H → Pre ρ0 ρ → ∃ G', New G H G' H' ∧ Rp K ρ G' d x

section
variable {K : Frg} {ρ : List Addr} {G : Hp} {ds es : List D} {vs ws : List V} {a b : Addr}
theorem Rps.at' (r : Rps K ρ G ds vs) {i : Nat} {d : D} {x : V} (h : ds[i]? = some d) (h2 : vs[i]? = some x) : Rp K ρ G d x := by
  obtain ⟨v, e, q⟩ := r.get h
  rw [h2] at e; cases e; exact q
theorem walkD_list (h : G a = some (.lst vs)) (r : Rps K ρ G ds vs) : WalkD (Itl K a) K ρ G ds where
  go := fun i H hi s => ⟨vs, vs[i]'(by rw [← r.length]; exact hi), .inl (.inl (s _ _ h)), by simp [show i < vs.length by rw [← r.length]; exact hi]⟩
  stop := fun H s => ⟨vs, .inl (.inl (s _ _ h)), by rw [r.length]; exact Nat.le_refl _⟩
  yld := fun i H x H' d hd s y ρ1 G1 g1 gh p => by
    obtain ⟨rfl, y⟩ := y
    exact ⟨G1, .refl _ _, (r.at' hd (y vs (.inl (.inl (s _ _ h))))).mono g1 p⟩
theorem walkD_tup (h : G a = some (.tup vs)) (r : Rps K ρ G ds vs) : WalkD (Itt K a) K ρ G ds where
  go := fun i H hi s => ⟨vs, vs[i]'(by rw [← r.length]; exact hi), SqT.up s h, by simp [show i < vs.length by rw [← r.length]; exact hi]⟩
  stop := fun H s => ⟨vs, SqT.up s h, by rw [r.length]; exact Nat.le_refl _⟩
  yld := fun i H x H' d hd s y ρ1 G1 g1 gh p => by
    obtain ⟨rfl, y⟩ := y
    exact ⟨G1, .refl _ _, (r.at' hd (y vs (SqT.up s h))).mono g1 p⟩
theorem walkD_range {lo : Int} {n : Nat} : WalkD (Itr lo n) K ρ G ((List.range n).map fun (i : Nat) => .int (lo + (i : Int))) where
  go := fun i H hi s => (show i < n by simpa using hi)
  stop := fun H s => by show n ≤ _; simp
  yld := fun i H x H' d hd s y ρ1 G1 g1 gh p => by
    obtain ⟨rfl, rfl⟩ := y
    obtain ⟨h1, h2⟩ := List.getElem?_eq_some_iff.mp hd
    simp at h2
    subst h2
    exact ⟨G1, .refl _ _, .int _⟩
theorem walkD_enum (h : G a = some (.lst vs)) (r : Rps K ρ G ds vs) : WalkD (Ite K a) K ρ G (ds.zipIdx.map fun p => .tup [.int p.2, p.1]) where
  go := fun i H hi s => by
    have hi : i < vs.length := by rw [← r.length]; simpa using hi
    exact ⟨vs, vs[i], .inl (.inl (s _ _ h)), by simp [hi]⟩
  stop := fun H s => ⟨vs, .inl (.inl (s _ _ h)), by simp [r.length]⟩
  yld := fun i H x H' d hd s y ρ1 G1 g1 gh p => by
    obtain ⟨T, z, rfl, h2, rfl, h4⟩ := y
    have hz := h4 vs (.inl (.inl (s _ _ h)))
    rw [List.getElem?_map] at hd
    obtain ⟨q, hq, rfl⟩ := Option.map_eq_some_iff.mp hd
    rw [List.getElem?_zipIdx] at hq
    obtain ⟨d', hd', rfl⟩ := Option.map_eq_some_iff.mp hq
    have hn := gh.free h2
    refine ⟨_, .one h2 _, .tup (upd_same) (.cons (by simpa using Rp.int _) (.cons ?_ .nil))⟩
    exact ((r.at' hd' hz).mono g1 p).mono (Same.upd hn) (Pre.refl _)
theorem zip_len {α β : Type} (xs : List α) (ys : List β) : (xs.zip ys).length = min xs.length ys.length := by simp
theorem walkD_pair {J : It} {Gq : Hp → Prop} (rd : Rps K ρ G ds vs) (re : Rps K ρ G es ws) (w : Walk J (min vs.length ws.length) Gq (YPair (fun i => vs[i]?) (fun i => ws[i]?))) (hq : ∀ H, Same G H → Gq H) :
    WalkD J K ρ G ((ds.zip es).map fun p => .tup [p.1, p.2]) where
  go := fun i H hi s => w.goes i H (by simpa [rd.length, re.length] using hi) (hq H s)
  stop := fun H s => by
    have := w.stops H (hq H s)
    simpa [rd.length, re.length] using this
  yld := fun i H x H' d hd s y ρ1 G1 g1 gh p => by
    rw [List.getElem?_map] at hd
    obtain ⟨⟨d1, d2⟩, hz, rfl⟩ := Option.map_eq_some_iff.mp hd
    obtain ⟨h1, h2⟩ := List.getElem?_zip_eq_some.mp hz
    have hi : i < min vs.length ws.length := by
      have := (List.getElem?_eq_some_iff.mp h1).1
      have := (List.getElem?_eq_some_iff.mp h2).1
      rw [← rd.length, ← re.length]; omega
    obtain ⟨T, u, v, rfl, hT, rfl, k1, k2⟩ := w.yields i H x H' hi (hq H s) y
    have hn := gh.free hT
    refine ⟨_, .one hT _, .tup (upd_same) (.cons ?_ (.cons ?_ .nil))⟩
    · exact ((rd.at' h1 k1).mono g1 p).mono (Same.upd hn) (Pre.refl _)
    · exact ((re.at' h2 k2).mono g1 p).mono (Same.upd hn) (Pre.refl _)
end

section
variable {nm : Nm} {K : Frg} {ρ ρ' : List Addr} {G G' H H' : Hp} {M M' : List MO} {fr : Fr} {e e' : Ev} {σ σ' : L2.St}
def gdI (nm : Nm) (K : Frg) (fr : Fr) (σ : L2.St) (R : It → Hp → Prop) : Gd (List D) := fun ρ G ds e M => ∀ J H' G' ρ', Same G G' → Pre ρ ρ' → SR nm K fr ρ' G' e M σ H' → WalkD J K ρ' G' ds → R J H'
theorem gdI_mono {R : It → Hp → Prop} : (gdI nm K fr σ R).Mono := fun _ _ _ _ _ _ _ g p h J H1 G1 ρ1 h1 h2 h3 h4 => h J H1 G1 ρ1 (g.trans h1) (p.trans h2) h3 h4
def tI (nm : Nm) (K : Frg) (W : WX) (f : Ev → List MO → Out (List D)) : TI := fun σ H R => ∃ fr ρ G e M, SR nm K fr ρ G e M σ H ∧ pG nm K fr W (gdI nm K fr σ R) ρ G (f e M)
theorem tI.bind {α : Type} {W : WX} {gd : Gd α} {f : Ev → List MO → Out (List D)} {k : List D → Ev → List MO → Out α} {R : It → Hp → Prop} (hm : gd.Mono) (r : SR nm K fr ρ G e M σ H) (h : pG nm K fr W gd ρ G ((f e M).bind k))
    (hk : ∀ J ρ' G' e' M' ds H', Same G G' → Pre ρ ρ' → SR nm K fr ρ' G' e' M' σ H' → WalkD J K ρ' G' ds → pG nm K fr W gd ρ' G' (k ds e' M') → R J H') : tI nm K W f σ H R := by
  refine ⟨fr, ρ, G, e, M, r, ?_⟩
  cases q : f e M with
  | bad => rw [q] at h; exact h
  | err c fv e' M' => rw [q] at h; exact h
  | ok d e' M' =>
    rw [q] at h
    exact fun J H' G' ρ' g p r' rv => hk J ρ' G' e' M' d H' g p r' rv (pG.mono hm g p h)
/-- a slot is stored -/
theorem SR.setv (r : SR nm K fr ρ G e M σ H) {i : Nat} {d : D} {v : V} (rv : Rp K ρ G d v) : SR nm K fr ρ G (e.set i (.val d)) M (σ.set i (some v)) H := by
  have no : ∀ {j : Nat} {ys : List D}, (e.set i (.val d))[j]? = some (.own ys) → j ≠ i ∧ e[j]? = some (.own ys) := fun {j ys} q => by
    have hj : j ≠ i := fun z => by
      subst z
      by_cases hl : j < e.length
      · rw [List.getElem?_set_self hl] at q; cases q
      · rw [List.getElem?_eq_none (by simpa using hl)] at q; cases q
    rw [List.getElem?_set_ne (Ne.symm hj)] at q
    exact ⟨hj, q⟩
  refine ⟨r.wf, r.kp, fun j d' q => ?_, fun j ys q => ?_, fun j k xs ys a h1 h2 h3 h4 => ?_, by simpa using r.len⟩
  · by_cases hj : j = i
    · subst hj
      by_cases hl : j < e.length
      · rw [List.getElem?_set_self hl] at q
        cases q
        exact ⟨v, List.getElem?_set_self (by rw [← r.len]; exact hl), rv⟩
      · rw [List.getElem?_eq_none (by simpa using hl)] at q; cases q
    · rw [List.getElem?_set_ne (Ne.symm hj)] at q
      obtain ⟨u, k1, k2⟩ := r.vals j d' q
      exact ⟨u, by rw [List.getElem?_set_ne (Ne.symm hj)]; exact k1, k2⟩
  · obtain ⟨hj, q⟩ := no q
    obtain ⟨a, ws, k1, k2⟩ := r.owns j ys q
    exact ⟨a, ws, by rw [List.getElem?_set_ne (Ne.symm hj)]; exact k1, k2⟩
  · obtain ⟨n1, h1⟩ := no h1
    obtain ⟨n2, h2⟩ := no h2
    rw [List.getElem?_set_ne (Ne.symm n1)] at h3
    rw [List.getElem?_set_ne (Ne.symm n2)] at h4
    exact r.apart j k xs ys a h1 h2 h3 h4
end

/-- a target's reading: what it stores -/
def TgOk (X : Cx) (t : Tg) : TG → Prop := fun g => ∀ (nm : Nm) (fr : Fr) (ρ : List Addr) (G : Hp) (e e1 : Ev) (M : List MO) (σ : L2.St) (H : Hp) (d : D) (v : V) (Q : L2.St → Hp → Prop),
  SR nm X.K fr ρ G e M σ H → Rp X.K ρ G d v → setT t d e = some e1 → (∀ σ', (∀ vs, t.ns ⊆ vs → wipe σ' vs = wipe σ vs) → SR nm X.K fr ρ G e1 M σ' H → Q σ' H) → g v σ H Q
theorem wipe_len' {σ τ : L2.St} : ∀ {vs : List Nat}, σ.length = τ.length → (∀ i, i ∉ vs → σ[i]? = τ[i]?) → wipe σ vs = wipe τ vs := by
  have key : ∀ (vs : List Nat) (σ : L2.St) (i : Nat), i ∈ vs → i < σ.length → (wipe σ vs)[i]? = some none := by
    intro vs
    induction vs with
    | nil => intro _ _ h; simp at h
    | cons v r ih =>
      intro σ i h hl
      unfold wipe
      by_cases hv : v = i
      · subst hv
        rw [List.getElem?_set_self (by rw [wipe_length]; exact hl)]
      · rw [List.getElem?_set_ne hv]
        exact ih σ i ((List.mem_cons.mp h).resolve_left fun z => hv z.symm) hl
  intro vs hl h
  apply List.ext_getElem?
  intro i
  by_cases hi : i ∈ vs
  · by_cases hlt : i < σ.length
    · rw [key vs σ i hi hlt, key vs τ i hi (hl ▸ hlt)]
    · rw [List.getElem?_eq_none (by rw [wipe_length]; omega), List.getElem?_eq_none (by rw [wipe_length]; omega)]
  · rw [wipe_out hi, wipe_out hi]; exact h i hi
theorem tg_name {X : Cx} {i : Nat} : TgOk X (.nm i) (gName i) := by
  intro nm fr ρ G e e1 M σ H d v Q r rv h hQ
  cases h
  refine hQ _ (fun vs hv => ?_) (r.setv rv)
  exact wipe_len' (by simp) fun j hj => List.getElem?_set_ne fun z => hj (by subst z; exact hv (by simp [Tg.ns]))
def gNames : List Nat → TGs
  | [] => gNil
  | i :: r => gCons (gName i) (gNames r)
theorem tg_names {X : Cx} {l : List Nat} : TgOk X (.tp l) (gTup X.K l.length (gNames l)) := by
  intro nm fr ρ G e e1 M σ H d v Q r rv h hQ
  cases rv with
  | @tup a xs ws sq rs =>
    simp only [setT] at h
    split at h
    · rename_i hl
      cases h
      refine ⟨a, ws, rfl, SqT.up r.wf.sub sq, by rw [← rs.length]; exact hl, ?_⟩
      -- one by one
      have go : ∀ (l : List Nat) (xs : List D) (ws : List V) (e : Ev) (σ1 : L2.St), xs.length = l.length → Rps X.K ρ G xs ws → SR nm X.K fr ρ G e M σ1 H → σ1.length = σ.length →
          (∀ σ', σ'.length = σ.length → (∀ j, j ∉ l → σ'[j]? = σ1[j]?) → SR nm X.K fr ρ G ((l.zip xs).foldl (fun e p => e.set p.1 (.val p.2)) e) M σ' H → Q σ' H) → gNames l ws σ1 H Q := by
        intro l
        induction l with
        | nil =>
          intro xs ws e σ1 h1 rs r1 hs k
          cases xs with
          | nil => cases rs; exact ⟨rfl, k σ1 hs (fun _ _ => rfl) r1⟩
          | cons _ _ => simp at h1
        | cons i l ih =>
          intro xs ws e σ1 h1 rs r1 hs k
          cases rs with
          | nil => simp at h1
          | @cons d0 v0 xs0 ws0 rd rr =>
            refine ⟨v0, ws0, rfl, ?_⟩
            refine ih xs0 ws0 (e.set i (.val d0)) (σ1.set i (some v0)) (by simpa using h1) rr (r1.setv rd) (by simpa using hs) fun σ' hl' hj r' => ?_
            refine k σ' hl' (fun j hjn => ?_) r'
            simp only [List.mem_cons, not_or] at hjn
            rw [hj j hjn.2, List.getElem?_set_ne (Ne.symm hjn.1)]
      exact go l xs ws e σ hl rs r rfl fun σ' hl' hj r' => hQ σ' (fun vs hv => wipe_len' hl' fun j hjn => hj j fun m => hjn (hv m)) r'
    · cases h
  | _ => simp [setT] at h

def forL (f : D → Ev → List MO → Out Fl) : List D → Ev → List MO → Out Fl
  | [], e, M => .ok .nx e M
  | x :: r, e, M => match f x e M with
    | .ok .nx e M => forL f r e M
    | .ok .ct e M => forL f r e M
    | .ok .bk e M => .ok .nx e M
    | .ok (.rt d) e M => .ok (.rt d) e M
    | .err c v e M => .err c v e M
    | .bad => .bad
def turn (t : Tg) (b : Ev → List MO → Out Fl) (x : D) (e : Ev) (M : List MO) : Out Fl := match setT t x e with
  | none => .bad
  | some e1 => b e1 M
section
variable {X : Cx} {nm : Nm} {W : WX} {pos : Pos}
theorem for_step {J : It} {fr : Fr} {ρ : List Addr} {G H : Hp} {e : Ev} {M : List MO} {σ : L2.St} {E : Ends} {t : Tg} {g : TG} {b : Ev → List MO → Out Fl} {ds : List D} (tg : TgOk X t g) (s : SR nm X.K fr ρ G e M σ H) (w : WalkD J X.K ρ G ds)
    (h : pG nm X.K fr W (gdS nm X.K fr E) ρ G (forL (turn t b) ds e M)) :
    ∃ Wv : Nat → Nat → L2.St → Hp → Prop, (∃ m, Wv 0 m σ H) ∧ ∀ i m σ H, Wv i m σ H →
      (J.stop i H ∧ E.nx σ H) ∨ (J.go i H ∧ ∃ N : L2.St → Hp → Prop, (∀ σ' H', N σ' H' → ∃ m', m' < m ∧ Wv (i + 1) m' σ' H') ∧ ∀ x H', J.yld i H x H' → g x σ H' fun σ2 H2 => tS nm X.K W b { E with nx := N, ct := N, bk := E.nx } σ2 H2) := by
  refine ⟨fun i m σ H => ∃ ρ1 G1 e1 M1, Same G G1 ∧ Pre ρ ρ1 ∧ SR nm X.K fr ρ1 G1 e1 M1 σ H ∧ m = ds.length - i ∧ i ≤ ds.length ∧ pG nm X.K fr W (gdS nm X.K fr E) ρ1 G1 (forL (turn t b) (ds.drop i) e1 M1),
    ⟨_, ρ, G, e, M, Same.refl _, Pre.refl _, s, rfl, Nat.zero_le _, by simpa using h⟩, ?_⟩
  rintro i m σ1 H1 ⟨ρ1, G1, e1, M1, g1, p1, s1, rfl, hi, h1⟩
  have sH : Same G H1 := g1.trans s1.wf.sub
  by_cases hlt : i < ds.length
  · refine .inr ⟨w.go i H1 hlt sH, fun σ' H' => ∃ ρ2 G2 e2 M2, Same G G2 ∧ Pre ρ ρ2 ∧ SR nm X.K fr ρ2 G2 e2 M2 σ' H' ∧ pG nm X.K fr W (gdS nm X.K fr E) ρ2 G2 (forL (turn t b) (ds.drop (i + 1)) e2 M2), ?_, ?_⟩
    · rintro σ' H' ⟨ρ2, G2, e2, M2, g2, p2, s2, h2⟩
      exact ⟨ds.length - (i + 1), by omega, ρ2, G2, e2, M2, g2, p2, s2, rfl, hlt, h2⟩
    · intro x H' y
      obtain ⟨G2, nw, rx⟩ := w.yld i H1 x H' ds[i] (by simp [hlt]) sH y ρ1 G1 g1 s1.wf.sub p1
      have s2 := s1.new nw
      have g12 := (nw.both s1.wf.sub).1
      rw [List.drop_eq_getElem_cons hlt] at h1
      have h1 : pG nm X.K fr W (gdS nm X.K fr E) ρ1 G2 (match turn t b ds[i] e1 M1 with
        | .ok .nx e M => forL (turn t b) (ds.drop (i + 1)) e M
        | .ok .ct e M => forL (turn t b) (ds.drop (i + 1)) e M
        | .ok .bk e M => .ok .nx e M
        | .ok (.rt d) e M => .ok (.rt d) e M
        | .err c v e M => .err c v e M
        | .bad => .bad) := pG.mono gdS_mono g12 (Pre.refl _) h1
      cases q : setT t ds[i] e1 with
      | none =>
        have z : turn t b ds[i] e1 M1 = .bad := by simp only [turn, q]
        rw [z] at h1; exact h1.elim
      | some e2 =>
        have z : turn t b ds[i] e1 M1 = b e2 M1 := by simp only [turn, q]
        rw [z] at h1
        refine tg nm fr ρ1 G2 e1 e2 M1 σ1 H' ds[i] x _ s2 rx q fun σ' _ s3 => ?_
        refine ⟨fr, ρ1, G2, e2, M1, s3, ?_⟩
        have gg := g1.trans g12
        cases q2 : b e2 M1 with
        | bad => rw [q2] at h1; exact h1
        | err c v e3 M3 => rw [q2] at h1; exact h1
        | ok fl e3 M3 =>
          rw [q2] at h1
          cases fl with
          | nx => exact fun σ' H' G' ρ' a b' s' => ⟨ρ', G', e3, M3, gg.trans a, p1.trans b', s', pG.mono gdS_mono a b' h1⟩
          | ct => exact fun σ' H' G' ρ' a b' s' => ⟨ρ', G', e3, M3, gg.trans a, p1.trans b', s', pG.mono gdS_mono a b' h1⟩
          | bk => exact h1
          | rt d => exact h1
  · have ei : i = ds.length := by omega
    subst ei
    refine .inl ⟨w.stop H1 sH, ?_⟩
    rw [List.drop_length] at h1
    exact h1 σ1 H1 G1 ρ1 (Same.refl _) (Pre.refl _) s1
theorem sS_for {tgx iter : Expr} {body : List Stmt} {t : Tg} {g : TG} {fi : Ev → List MO → Out (List D)} {b : Ev → List MO → Out Fl} (hp : PassesOwn (model X.prog X.w) X.A X.env X.xe) (gx : GX X) (hi : PI X tgx iter (tI nm X.K W fi)) (hg : PG X tgx g) (tg : TgOk X t g)
    (hb : PSs X body (tS nm X.K W b)) (hs : ∀ x, foldedSetIterable iter X.env x = pure x) :
    PS X (.For tgx iter body [] pos) (tS nm X.K W fun e M => (fi e M).bind fun ds e M => forL (turn t b) ds e M) := by
  refine (ps_for hp gx.calm hi hg hb hs).imp fun E σ H ⟨fr, ρ, G, e, M, s, h⟩ => ?_
  exact tI.bind gdS_mono s h fun J ρ1 G1 e1 M1 ds H1 g1 p1 s1 w h1 => for_step tg s1 w h1
variable {a b : Expr} {es : List Expr} {fa fb : Ev → List MO → Out D} {ga : Ev → List MO → Out (List D)}
theorem sI_seq {tgx : Expr} (ha : PE X a (tE nm X.K W fa)) : PI X tgx a (tI nm X.K W fun e M => (fa e M).bind fun d e M => lift (seqD d) e M) := by
  refine ⟨fun pins s σ H R I ⟨fr, ρ, G, e, M, r, h⟩ => ?_⟩
  refine thn (ha.run pins s σ H (fun v H1 => ∃ ρ1 G1 e1 M1 d, SR nm X.K fr ρ1 G1 e1 M1 σ H1 ∧ Rp X.K ρ1 G1 d v ∧ pG nm X.K fr W (gdI nm X.K fr σ R) ρ1 G1 (lift (seqD d) e1 M1)) I
    (tE.bind gdI_mono r h fun ρ1 G1 e1 M1 d v H1 g1 p1 s1 r1 h1 => ⟨ρ1, G1, e1, M1, d, s1, r1, h1⟩)) fun v s1 ⟨x, H1, I1, rx, ρ1, G1, e1, M1, d, s2, rd, h1⟩ => ?_
  -- the value is a list or a tuple
  cases rd with
  | @lst p xs vs sq rs =>
    obtain ⟨its, rv, pl, hz⟩ := I1.list (.inl (.inl (s2.wf.sub _ _ sq)))
    cases rx
    refine wpAny_pyIter_list pl.isList ?_
    refine ⟨s1.heap.objs.size, [s1.heap.objs.size], _, Itl X.K p, H1, rfl, I1.kept (t' := s1.toks) fun b o e => Heap.get?_push_of_some _ e, turn_list p _, ⟨_, Heap.get?_push_size _ rfl, rfl, rfl⟩, fun b hb => ?_, ?_⟩
    · obtain rfl : b = s1.heap.objs.size := by simpa using hb
      exact I1.fpOk (Nat.le_refl _) (I1.hok.fresh (Nat.le_refl _))
    · exact h1 _ H1 G1 ρ1 (Same.refl _) (Pre.refl _) s2 (walkD_list sq rs)
  | @tup p xs vs sq rs =>
    obtain ⟨its, rv, pl, hz⟩ := I1.tuple (SqT.up s2.wf.sub sq)
    cases rx
    refine wpAny_pyIter_tuple (show s1.heap.IsTuple p its.toArray from pl) ?_
    refine ⟨s1.heap.objs.size, [s1.heap.objs.size], _, Itt X.K p, H1, rfl, I1.kept (t' := s1.toks) fun b o e => Heap.get?_push_of_some _ e, turn_tuple p _, ⟨_, Heap.get?_push_size _ rfl, rfl, rfl⟩, fun b hb => ?_, ?_⟩
    · obtain rfl : b = s1.heap.objs.size := by simpa using hb
      exact I1.fpOk (Nat.le_refl _) (I1.hok.fresh (Nat.le_refl _))
    · exact h1 _ H1 G1 ρ1 (Same.refl _) (Pre.refl _) s2 (walkD_tup sq rs)
  | _ => exact h1.elim
theorem _root_.L2.PI.imp {x y : Expr} {t t' : TI} (h : PI X x y t) (k : ∀ σ H R, t' σ H R → t σ H R) : PI X x y t' := ⟨fun pins s σ H R I q => h.run pins s σ H R I (k σ H R q)⟩
theorem rng_ok {x y : D} {ds : List D} (h : rngD x y = some ds) : ∃ i j : Int, x = .int i ∧ y = .int j ∧ (-1000000 ≤ i ∧ i ≤ 1000000 ∧ -1000000 ≤ j ∧ j ≤ 1000000) ∧ ds = (List.range (j - i).toNat).map fun (k : Nat) => .int (i + (k : Int)) := by
  unfold rngD at h
  split at h
  · split at h
    · rename_i i j c
      simp only [Bool.and_eq_true, decide_eq_true_eq] at c
      exact ⟨i, j, rfl, rfl, ⟨c.1.1.1, c.1.1.2, c.1.2, c.2⟩, (Option.some.inj h).symm⟩
    · cases h
  · cases h
theorem sI_rng1 {tgx : Expr} {p pos : Pos} (hg : Gl X "range") (hm : X.mg "range" = none) (hx : PA X [b] (tA nm X.K W ga)) (hs : starEach [b] X.env = [(false, eval b X.env)]) :
    PI X tgx (.Call (.Name "range" p) [b] [] pos) (tI nm X.K W fun e M => (ga e M).bind fun ds e M => lift (rngDs1 ds) e M) := by
  refine (pi_range1 hg hm hx hs).imp fun σ H R ⟨fr, ρ, G, e, M, r, h⟩ => ?_
  refine tA.bind gdI_mono r h fun ρ1 G1 e1 M1 ds vs H1 g1 p1 s1 r1 h1 => ?_
  cases q : rngDs1 ds with
  | none => rw [q] at h1; exact h1.elim
  | some l =>
  rw [q] at h1
  match ds, r1, q with
  | [y], .cons ry .nil, q =>
    obtain ⟨i, j, e1', rfl, bb, rfl⟩ := rng_ok q
    cases e1'
    cases ry
    refine ⟨j, rfl, by omega, by omega, h1 _ H1 G1 ρ1 (Same.refl _) (Pre.refl _) s1 ?_⟩
    have w := walkD_range (K := X.K) (ρ := ρ1) (G := G1) (lo := 0) (n := j.toNat)
    simpa using w
theorem sI_rng2 {tgx : Expr} {p pos : Pos} (hg : Gl X "range") (hm : X.mg "range" = none) (hx : PA X [a, b] (tA nm X.K W ga)) (hs : starEach [a, b] X.env = [(false, eval a X.env), (false, eval b X.env)]) (hs2 : starEach [b] X.env = [(false, eval b X.env)]) :
    PI X tgx (.Call (.Name "range" p) [a, b] [] pos) (tI nm X.K W fun e M => (ga e M).bind fun ds e M => lift (rngDs2 ds) e M) := by
  refine (pi_range2 hg hm hx hs hs2).imp fun σ H R ⟨fr, ρ, G, e, M, r, h⟩ => ?_
  refine tA.bind gdI_mono r h fun ρ1 G1 e1 M1 ds vs H1 g1 p1 s1 r1 h1 => ?_
  cases q : rngDs2 ds with
  | none => rw [q] at h1; exact h1.elim
  | some l =>
  rw [q] at h1
  match ds, r1, q with
  | [x, y], .cons rx (.cons ry .nil), q =>
    obtain ⟨i, j, rfl, rfl, bb, rfl⟩ := rng_ok q
    cases rx; cases ry
    exact ⟨i, j, rfl, by omega, h1 _ H1 G1 ρ1 (Same.refl _) (Pre.refl _) s1 walkD_range⟩
theorem sI_enm {p pos tpos : Pos} {elts : List Expr} {kk : Nat} (hg : Gl X "enumerate") (hm : X.mg "enumerate" = none) (hx : PA X [a] (tA nm X.K W ga)) (hs : starEach [a] X.env = [(false, eval a X.env)]) :
    PI X (.Tuple elts kk tpos) (.Call (.Name "enumerate" p) [a] [] pos) (tI nm X.K W fun e M => (ga e M).bind fun ds e M => lift (enmDs ds) e M) := by
  refine (pi_enum hg hm hx hs).imp fun σ H R ⟨fr, ρ, G, e, M, r, h⟩ => ?_
  refine tA.bind gdI_mono r h fun ρ1 G1 e1 M1 ds vs H1 g1 p1 s1 r1 h1 => ?_
  cases q : enmDs ds with
  | none => rw [q] at h1; exact h1.elim
  | some l =>
  rw [q] at h1
  match ds, r1, q with
  | [.lst xs], .cons (.lst sq rs) .nil, q =>
    cases q
    exact ⟨_, _, rfl, .inl (.inl (s1.wf.sub _ _ sq)), h1 _ H1 G1 ρ1 (Same.refl _) (Pre.refl _) s1 (walkD_enum sq rs)⟩
end
end PM

namespace PM
open PySem PySem.Spec PyProof.Rows L2
section
variable {nm : Nm} {K : Frg} {ρ ρ' : List Addr} {G G' H H' : Hp} {M M' : List MO} {fr : Fr} {e e' : Ev} {σ σ' : L2.St}
/-- a finished list of one's own becomes a value -/
theorem SR.mark (r : SR nm K fr ρ G e M σ H) {p : Addr} {o : HO} (h1 : H p = some o) (h2 : G p = none) (h3 : p ∉ ρ) (h4 : ¬ NT fr.H p) (hsf : Soft H p) (h5 : ∀ (i : Nat) xs, e[i]? = some (.own xs) → σ[i]? ≠ some (some (.ref p))) :
    SR nm K fr ρ (upd G p o) e M σ H where
  wf := ⟨fun b u q => by
      by_cases hb : b = p
      · subst hb; rw [upd_same] at q; rw [← q]; exact h1
      · rw [upd_ne hb] at q; exact r.wf.sub b u q, r.wf.len, r.wf.nd,
    fun b m => by rw [upd_ne (fun z => h3 (z ▸ m) : b ≠ p)]; exact r.wf.off b m, fun j m b hm hb => (r.wf.obj j m b hm hb).mono (Same.upd h2) (Pre.refl _) rfl, fun b ps q => (by
      by_cases hb : b = p
      · subst hb; rw [upd_same] at q; exact hsf.tbl ps (h1.trans q)
      · rw [upd_ne hb] at q; exact r.wf.gt b ps q), r.wf.tabs, fun q hq => by
      obtain ⟨k1, k2⟩ := r.wf.tfr q hq
      obtain ⟨ps, k3, _⟩ := r.wf.tabs q hq
      have n : q.1 ≠ p := fun z => hsf.tbl ps (z ▸ k3)
      exact ⟨by rw [upd_ne n]; exact k1, k2⟩⟩
  kp := ⟨r.kp.pre, r.kp.keep, fun b q => (upd_ne (fun z => h4 (z ▸ q) : b ≠ p)).trans (r.kp.fresh b q), r.kp.grow.trans (Same.upd h2), r.kp.nu, r.kp.live⟩
  vals := fun j d q => by
    obtain ⟨v, k1, k2⟩ := r.vals j d q
    exact ⟨v, k1, k2.mono (Same.upd h2) (Pre.refl _)⟩
  owns := fun j ys q => by
    obtain ⟨b, ws, k1, k2, k3, k4, k5, k6⟩ := r.owns j ys q
    have n : b ≠ p := fun z => h5 j ys q (z ▸ k1)
    exact ⟨b, ws, k1, by rw [upd_ne n]; exact k2, k3, k4, k5, k6.mono (Same.upd h2) (Pre.refl _)⟩
  apart := r.apart
  len := r.len
theorem blk_len (vs : List Nat) (e : Ev) : (blkE vs e).length = e.length := by
  unfold blkE
  induction vs with
  | nil => simp
  | cons v r ih => simpa using ih
theorem blk_val {vs : List Nat} {e : Ev} {i : Nat} : (∀ d, (blkE vs e)[i]? = some (.val d) → i ∉ vs ∧ e[i]? = some (.val d)) ∧ (∀ xs, (blkE vs e)[i]? ≠ some (.own xs)) := by
  unfold blkE
  induction vs with
  | nil =>
    refine ⟨fun d h => ?_, fun xs h => ?_⟩
    · simp only [List.foldr_nil, List.getElem?_map, Option.map_eq_some_iff] at h
      obtain ⟨s, h1, h2⟩ := h
      refine ⟨by simp, ?_⟩
      cases s <;> simp [isOwn] at h2
      subst h2; exact h1
    · simp only [List.foldr_nil, List.getElem?_map, Option.map_eq_some_iff] at h
      obtain ⟨s, h1, h2⟩ := h
      cases s <;> simp [isOwn] at h2
  | cons v r ih =>
    simp only [List.foldr_cons]
    by_cases hv : v = i
    · subst hv
      have key : ∀ x, x ≠ Sl.non → ((List.foldr (fun v e => e.set v Sl.non) (e.map fun s => if isOwn s then Sl.non else s) r).set v Sl.non)[v]? ≠ some x := by
        intro x hx h
        by_cases hl : v < (List.foldr (fun v e => e.set v Sl.non) (e.map fun s => if isOwn s then Sl.non else s) r).length
        · rw [List.getElem?_set_self hl] at h
          exact hx (Option.some.inj h).symm
        · rw [List.getElem?_eq_none (by simpa using hl)] at h; cases h
      exact ⟨fun d h => absurd h (key _ (by simp)), fun xs => key _ (by simp)⟩
    · refine ⟨fun d h => ?_, fun xs h => ?_⟩
      · rw [List.getElem?_set_ne hv] at h
        obtain ⟨h1, h2⟩ := ih.1 d h
        exact ⟨by simp only [List.mem_cons, not_or]; exact ⟨fun z => hv z.symm, h1⟩, h2⟩
      · rw [List.getElem?_set_ne hv] at h
        exact ih.2 xs h
/-- the block of a comprehension begins a turn -/
theorem SR.block (r : SR nm K fr ρ G e M σ H) (vs : List Nat) : SR nm K ⟨H, G, ρ⟩ ρ G (blkE vs e) M (wipe σ vs) H where
  wf := r.wf
  kp := Kp.refl
  vals := fun i d h => by
    obtain ⟨h1, h2⟩ := blk_val.1 d h
    obtain ⟨v, k1, k2⟩ := r.vals i d h2
    exact ⟨v, by rw [wipe_out h1]; exact k1, k2⟩
  owns := fun i xs h => absurd h (blk_val.2 xs)
  apart := fun i j xs ys a h => absurd h (blk_val.2 xs)
  len := by rw [blk_len, wipe_length]; exact r.len
/-- the list that a comprehension fills is written -/
theorem Wf.writeOff (w : Wf nm K ρ G M H) {p : Addr} {o : HO} (h2 : G p = none) (h3 : p ∉ ρ) (hsf : Soft H p) (ho : ∀ ps, o ≠ .tbl ps) : Wf nm K ρ G M (upd H p o) where
  sub := fun b u q => by rw [upd_ne (ne_of_none q h2)]; exact w.sub b u q
  len := w.len
  nd := w.nd
  off := fun b m => ⟨(w.off b m).1, (w.off b m).2.wr (fun z => h3 (z ▸ m) : b ≠ p)⟩
  obj := fun j m b hm hb => (w.obj j m b hm hb).mono (Same.refl _) (Pre.refl _) (upd_ne (fun z => h3 (z ▸ List.mem_of_getElem? hb) : b ≠ p))
  gt := w.gt
  tabs := tab_wr w.tabs hsf
  tfr := w.tfr
end

abbrev WF0 : WX := fun _ _ _ _ => False
theorem Kp.new {ρ : List Addr} {G H G' H' : Hp} (n : New G H G' H') (h : Same G H) : Kp ρ G H ρ G' H' := by
  induction n with
  | refl => exact Kp.refl
  | @step G1 H1 p o hn n hp ih =>
    refine ih.trans ⟨fun _ _ h => h, fun a u q _ _ => ?_, fun a q => upd_ne (q.ne hp), Same.upd ((n.both h).2.free hp), fun _ m => .inl m, fun a q => q.wr (q.ne hp)⟩
    rw [upd_ne (ne_of_none q hp)]; exact q
theorem Kp.writeOff {ρ ρ' : List Addr} {G H G' H' : Hp} (k : Kp ρ G H ρ' G' H') {p : Addr} (hp : ¬ NT H p) (o : HO) (ho : ∀ ps, o ≠ .tbl ps := by intro _ z; cases z) : Kp ρ G H ρ' G' (upd H' p o) where
  pre := k.pre
  keep := fun a u q n m => by rw [upd_ne (fun z => hp (z ▸ ⟨u, q, n⟩) : a ≠ p)]; exact k.keep a u q n m
  fresh := k.fresh
  grow := k.grow
  nu := k.nu
  live := fun a q => (k.live a q).wr1 ho
theorem wipe_wipe (σ : L2.St) (vs : List Nat) : wipe (wipe σ vs) vs = wipe σ vs := wipe_len' (wipe_length _ _) fun _ h => wipe_out h
theorem lim_lt : lim < sizeLine := by decide
theorem noErr_ok {α : Type} {o : Out α} {a : α} {e : Ev} {M : List MO} (h : noErr o = .ok a e M) : o = .ok a e M := by
  cases o with
  | ok => exact h
  | err => cases h
  | bad => cases h
section
variable {X : Cx} {nm : Nm} {W : WX} {pos : Pos}
theorem comp_step {J : It} {fr : Fr} {ρ : List Addr} {G H1 : Hp} {e : Ev} {M : List MO} {σ : L2.St} {Q : VK} {t : Tg} {g : TG} {c : Ev → List MO → Out Bool} {f : Ev → List MO → Out D} {ds : List D} {vs : List Nat} (tg : TgOk X t g)
    (hv : t.ns ⊆ vs) (s : SR nm X.K fr ρ G e M σ H1) (w : WalkD J X.K ρ G ds) (hl : ds.length ≤ lim)
    (h : pG nm X.K fr W (gdE nm X.K fr σ Q) ρ G ((cmpL (compF vs t c f e) ds [] M).bind fun l _ M => .ok (.lst l) e M)) (Dp : Addr) (hD : H1 Dp = none) :
    ∃ Wv : Nat → Nat → Hp → Prop, (∃ m, Wv 0 m (upd H1 Dp (.lst []))) ∧ ∀ i m H, Wv i m H →
      (J.stop i H ∧ Q (.ref Dp) H) ∨ (J.go i H ∧ ∃ Nx : Hp → Prop, (∀ H', Nx H' → ∃ m', m' < m ∧ Wv (i + 1) m' H') ∧ ∀ x H', J.yld i H x H' → g x (wipe σ vs) H' fun σ2 H2 => wipe σ2 vs = wipe σ vs ∧
        (tT nm X.K WF0 c) σ2 H2 fun b H3 => if b = true then (tE nm X.K WF0 f) σ2 H3 fun y H4 => ∃ acc, H4 Dp = some (.lst acc) ∧ acc.length < sizeLine ∧ Nx (upd H4 Dp (.lst (acc ++ [y]))) else Nx H3) := by
  -- what holds between two turns
  let Iv : Nat → Hp → Prop := fun i H => ∃ ρ1 G1 M1 acc vacc, Kp ρ G H1 ρ1 G1 H ∧ Wf nm X.K ρ1 G1 M1 H ∧ H Dp = some (.lst vacc) ∧ G1 Dp = none ∧ Dp ∉ ρ1 ∧ Rps X.K ρ1 G1 acc vacc ∧ acc.length ≤ i ∧
    pG nm X.K fr W (gdE nm X.K fr σ Q) ρ1 G1 ((cmpL (compF vs t c f e) (ds.drop i) acc M1).bind fun l _ M => .ok (.lst l) e M)
  have g0 := s.wf.none_of hD
  have n0 := s.wf.nin_of hD
  refine ⟨fun i m H => m = ds.length - i ∧ i ≤ ds.length ∧ Iv i H, ⟨_, rfl, Nat.zero_le _, ρ, G, M, [], [], Kp.refl.writeOff (NT.no hD) _, s.wf.writeOff g0 n0 (Soft.none hD) (fun _ z => by cases z), upd_same, g0, n0, .nil, Nat.le_refl _, by simpa using h⟩, ?_⟩
  rintro i m H ⟨rfl, hi, ρ1, G1, M1, acc, vacc, kp, wf, hDp, gD, nD, racc, hle, h1⟩
  have g1 : Same G G1 := kp.grows s.wf.sub
  have sH : Same G H := g1.trans wf.sub
  by_cases hlt : i < ds.length
  · refine .inr ⟨w.go i H hlt sH, Iv (i + 1), fun H' q => ⟨ds.length - (i + 1), by omega, rfl, hlt, q⟩, fun x H' y => ?_⟩
    obtain ⟨G2, nw, rx⟩ := w.yld i H x H' ds[i] (by simp [hlt]) sH y ρ1 G1 g1 wf.sub kp.pre
    have kp2 : Kp ρ1 G1 H ρ1 G2 H' := Kp.new nw wf.sub
    have wf2 := wf.new nw
    have g12 := (nw.both wf.sub).1
    have sb := (s.step (kp.trans kp2) wf2).block vs
    rw [List.drop_eq_getElem_cons hlt] at h1
    have h1 := pG.mono gdE_mono g12 (Pre.refl _) h1
    simp only [cmpL] at h1
    have hD2 : H' Dp = some (.lst vacc) := kp2.keep _ _ hDp (fun _ z => by cases z) nD
    have gD2 : G2 Dp = none := (kp2.fresh Dp (NT.lst hDp)).trans gD
    -- the way on
    have on : ∀ {fr2 : Fr} {ρ3 G3 M3 H3 σ3 e3}, fr2 = ⟨H', G2, ρ1⟩ → SR nm X.K fr2 ρ3 G3 e3 M3 σ3 H3 → Dp ∉ ρ3 ∧ G3 Dp = none ∧ H3 Dp = some (.lst vacc) := by
      rintro fr2 ρ3 G3 M3 H3 σ3 e3 rfl s3
      have nn : NT H' Dp := NT.lst hD2
      exact ⟨fun m => (s3.kp.nu Dp m).elim nD fun z => z nn, (s3.kp.fresh Dp nn).trans gD2, s3.kp.keep _ _ hD2 (fun _ z => by cases z) nD⟩
    cases q : setT t ds[i] (blkE vs e) with
    | none =>
      have z : compF vs t c f e ds[i] M1 = .bad := by simp only [compF, q]
      rw [z] at h1; exact h1.elim
    | some e1 =>
      have z : compF vs t c f e ds[i] M1 = (noErr (c e1 M1)).bind fun k e2 M => match k with
        | true => (noErr (f e2 M)).bind fun y e3 M => .ok (some y) e3 M
        | false => .ok none e2 M := by (simp only [compF, q]; try rfl)
      rw [z] at h1
      refine tg nm ⟨H', G2, ρ1⟩ ρ1 G2 (blkE vs e) e1 M1 (wipe σ vs) H' ds[i] x _ sb rx q fun σ2 hw s2 => ⟨(hw vs hv).trans (wipe_wipe _ _), ?_⟩
      refine ⟨_, ρ1, G2, e1, M1, s2, ?_⟩
      cases qc : noErr (c e1 M1) with
      | bad => rw [qc] at h1; exact h1.elim
      | err k fv e2 M2 =>
        exfalso
        cases qq : c e1 M1 <;> rw [qq] at qc <;> cases qc
      | ok k e2 M2 =>
        rw [qc] at h1
        rw [noErr_ok qc]
        intro H3 G3 ρ3 g23 p3 s3
        obtain ⟨d1, d2, d3⟩ := on rfl s3
        have r3 : Rps X.K ρ3 G3 acc vacc := racc.mono (g12.trans g23) p3
        cases k with
        | false => exact iteF ⟨ρ3, G3, M2, acc, vacc, (kp.trans kp2).trans s3.kp, s3.wf, d3, d2, d1, r3, by omega, pG.mono gdE_mono g23 p3 h1⟩
        | true =>
          refine iteT ⟨_, ρ3, G3, e2, M2, s3, ?_⟩
          cases qf : noErr (f e2 M2) with
          | bad =>
            have h1 : pG nm X.K fr W (gdE nm X.K fr σ Q) ρ1 G2 ((((noErr (f e2 M2)).bind fun y e3 M => .ok (some y) e3 M).bind fun o _ M => cmpL (compF vs t c f e) (ds.drop (i + 1)) (match o with | some y => acc ++ [y] | none => acc) M).bind fun l _ M => .ok (.lst l) e M) := h1
            rw [qf] at h1; exact h1.elim
          | err k fv e3 M3 =>
            exfalso
            cases qq : f e2 M2 <;> rw [qq] at qf <;> cases qf
          | ok y e3 M3 =>
            have h1 : pG nm X.K fr W (gdE nm X.K fr σ Q) ρ1 G2 ((((noErr (f e2 M2)).bind fun y e3 M => .ok (some y) e3 M).bind fun o _ M => cmpL (compF vs t c f e) (ds.drop (i + 1)) (match o with | some y => acc ++ [y] | none => acc) M).bind fun l _ M => .ok (.lst l) e M) := h1
            rw [qf] at h1
            rw [noErr_ok qf]
            intro v H4 G4 ρ4 g34 p4 s4 rv
            obtain ⟨d1, d2, d3⟩ := on rfl s4
            refine ⟨vacc, d3, ?_, ρ4, G4, M3, acc ++ [y], vacc ++ [v], ((kp.trans kp2).trans s4.kp).writeOff (NT.no hD) _, s4.wf.writeOff d2 d1 (Soft.lst d3) (fun _ z => by cases z), upd_same, d2, d1, (r3.mono g34 p4).append (.cons rv .nil), by simp; omega, pG.mono gdE_mono (g23.trans g34) (p3.trans p4) h1⟩
            rw [← racc.length]
            exact Nat.lt_of_le_of_lt (by omega) lim_lt
  · have ei : i = ds.length := by omega
    subst ei
    refine .inl ⟨w.stop H sH, ?_⟩
    rw [List.drop_length] at h1
    have s1 := s.step kp wf
    have hf : ¬ NT fr.H Dp := fun z => NT.no hD (s.kp.live Dp z)
    have s2 := s1.mark hDp gD nD hf (Soft.lst hDp) fun j xs q z => by
      obtain ⟨a, ws, k1, _, _, _, k5, _⟩ := s.owns j xs q
      rw [z] at k1
      cases k1
      rw [hD] at k5; cases k5
    exact h1 (.ref Dp) H _ ρ1 (Same.upd gD) (Pre.refl _) s2 (.lst upd_same (racc.mono (Same.upd gD) (Pre.refl _)))
end
end PM
namespace PM
open PySem PySem.Spec PyProof.Rows L2
section
variable {X : Cx} {nm : Nm} {W : WX} {pos : Pos} {a b c : Expr} {es : List Expr} {fa fb fc : Ev → List MO → Out D} {ft : Ev → List MO → Out Bool} {fi : Ev → List MO → Out (List D)}
theorem sP_no : PTs X [] (tT nm X.K W fun e M => .ok true e M) := ⟨fun pins s σ H Q I ⟨fr, ρ, G, e, M, r, h⟩ => pts_nil.run pins s σ H Q I (h H G ρ (Same.refl _) (Pre.refl _) r)⟩
theorem sE_comp {elt tgx iter : Expr} {ifs : List Expr} {scope : Scope} {own : List (Str × Nat)} {t : Tg} {g : TG} (gx : GX X) (hi : PI X tgx iter (tI nm X.K W fi)) (ok : BlkOk X.N X.env.scope scope own)
    (tg : TgOk X t g) (hv : t.ns ⊆ own.map (·.2))
    (hg : ∀ (s : Shared) (H : Hp) (C : Addr) (cl : List (Str × Addr)) (fp : List Addr), PG (X.blk s H scope (compEnvC scope cl C X.env) fp) tgx g)
    (ht : ∀ (s : Shared) (H : Hp) (C : Addr) (cl : List (Str × Addr)) (fp : List Addr), PTs (X.blk s H scope (compEnvC scope cl C X.env) fp) ifs (tT nm X.K WF0 ft))
    (he : ∀ (s : Shared) (H : Hp) (C : Addr) (cl : List (Str × Addr)) (fp : List Addr), PE (X.blk s H scope (compEnvC scope cl C X.env) fp) elt (tE nm X.K WF0 fa)) (hs : ∀ x, foldedSetIterable iter X.env x = pure x) :
    PE X (.ListComp elt [⟨tgx, iter, ifs, 0⟩] scope pos) (tE nm X.K W fun e M => (fi e M).bind fun xs e M => if xs.length ≤ lim then (cmpL (compF (own.map (·.2)) t ft fa e) xs [] M).bind fun l _ M => .ok (.lst l) e M else .bad) := by
  refine (pe_lc gx.calm gx.nd hi ok hg ht he hs).imp fun σ H Q ⟨fr, ρ, G, e, M, s, h⟩ => ?_
  refine tI.bind gdE_mono s h fun J ρ1 G1 e1 M1 ds H1 g1 p1 s1 w h1 Dp hD => ?_
  split at h1
  · rename_i hl
    exact comp_step tg hv s1 w hl h1 Dp hD
  · exact h1.elim
/-- name = [..] -/
theorem sS_comp {i : Nat} {y : Str} {py : Pos} {spos : Pos} {elt tgx iter : Expr} {ifs : List Expr} {scope : Scope} {own : List (Str × Nat)} {t : Tg} {g : TG} (gx : GX X) (hy : X.N[i]? = some y) (hyl : X.env.scope.names.lookup y = some .local)
    (hsw : swapsWith (.ListComp elt [⟨tgx, iter, ifs, 0⟩] scope pos) (some (.Name y py)) spos.line X.env = pure true) (hi : PI X tgx iter (tI nm X.K W fi)) (ok : BlkOk X.N X.env.scope scope own)
    (tg : TgOk X t g) (hv : t.ns ⊆ own.map (·.2))
    (hg : ∀ (s : Shared) (H : Hp) (C : Addr) (cl : List (Str × Addr)) (fp : List Addr), PG (X.blk s H scope (compEnvC scope cl C X.env) fp) tgx g)
    (ht : ∀ (s : Shared) (H : Hp) (C : Addr) (cl : List (Str × Addr)) (fp : List Addr), PTs (X.blk s H scope (compEnvC scope cl C X.env) fp) ifs (tT nm X.K WF0 ft))
    (he : ∀ (s : Shared) (H : Hp) (C : Addr) (cl : List (Str × Addr)) (fp : List Addr), PE (X.blk s H scope (compEnvC scope cl C X.env) fp) elt (tE nm X.K WF0 fa)) (hs : ∀ x, foldedSetIterable iter X.env x = pure x) :
    PS X (.Assign [.Name y py] (.ListComp elt [⟨tgx, iter, ifs, 0⟩] scope pos) spos) (tS nm X.K W fun e M => ((fi e M).bind fun xs e M => if xs.length ≤ lim then (cmpL (compF (own.map (·.2)) t ft fa e) xs [] M).bind fun l _ M => .ok (.lst l) e M else .bad).bind
      fun d e M => .ok .nx (e.set i (.val d)) M) := by
  refine (ps_setLc gx.calm gx.nd hy hyl hsw hi ok hg ht he hs).imp fun E σ H ⟨fr, ρ, G, e, M, s, h⟩ => ?_
  show tLc _ _ _ _ _ σ H _
  -- the value first
  have key : pG nm X.K fr W (gdE nm X.K fr σ fun v H' => E.nx (σ.set i (some v)) H') ρ G ((fi e M).bind fun xs e M => if xs.length ≤ lim then (cmpL (compF (own.map (·.2)) t ft fa e) xs [] M).bind fun l _ M => .ok (.lst l) e M else .bad) := by
    cases q : ((fi e M).bind fun xs e M => if xs.length ≤ lim then (cmpL (compF (own.map (·.2)) t ft fa e) xs [] M).bind fun l _ M => .ok (D.lst l) e M else .bad) with
    | bad => simp only [q] at h; exact h
    | err k fv e' M' => simp only [q] at h; exact h
    | ok d e' M' =>
      simp only [q] at h
      exact fun v H' G' ρ' g p r' rv => h _ H' G' ρ' g p (r'.setv rv)
  refine tI.bind gdE_mono s key fun J ρ1 G1 e1 M1 ds H1 g1 p1 s1 w h1 Dp hD => ?_
  split at h1
  · rename_i hl
    exact comp_step tg hv s1 w hl h1 Dp hD
  · exact h1.elim
end
end PM

namespace PM
open PySem PySem.Spec PyProof.Rows L2
section
variable {nm : Nm} {K : Frg} {ρ ρ' : List Addr} {G G' H H' : Hp} {M M' : List MO} {fr : Fr} {e e' : Ev} {σ σ' : L2.St}
theorem set_own {e : Ev} {i j : Nat} {s : Sl} {t : Sl} (h : (e.set i s)[j]? = some t) : (j = i ∧ s = t) ∨ (j ≠ i ∧ e[j]? = some t) := by
  by_cases hj : j = i
  · subst hj
    by_cases hl : j < e.length
    · rw [List.getElem?_set_self hl] at h
      exact .inl ⟨rfl, Option.some.inj h⟩
    · rw [List.getElem?_eq_none (by simpa using hl)] at h; cases h
  · rw [List.getElem?_set_ne (Ne.symm hj)] at h
    exact .inr ⟨hj, h⟩
/-- a new list of one's own at a slot -/
theorem SR.newOwn (r : SR nm K fr ρ G e M σ H) {i : Nat} {p : Addr} {xs : List D} {vs : List V} (hp : H p = some (.lst vs)) (hg : G p = none) (hm : p ∉ ρ) (hf : ¬ NT fr.H p)
    (hs : ∀ (j : Nat) ys, e[j]? = some (.own ys) → σ[j]? ≠ some (some (.ref p))) (rv : Rps K ρ G xs vs) : SR nm K fr ρ G (e.set i (.own xs)) M (σ.set i (some (.ref p))) H where
  wf := r.wf
  kp := r.kp
  vals := fun j d h => by
    rcases set_own h with ⟨_, z⟩ | ⟨hj, h⟩
    · cases z
    · obtain ⟨v, k1, k2⟩ := r.vals j d h
      exact ⟨v, by rw [List.getElem?_set_ne (Ne.symm hj)]; exact k1, k2⟩
  owns := fun j ys h => by
    rcases set_own h with ⟨hj, z⟩ | ⟨hj, h⟩
    · cases z
      subst hj
      have hl : j < σ.length := by
        rw [← r.len]
        have := (List.getElem?_eq_some_iff.mp h).1
        simpa using this
      exact ⟨p, vs, List.getElem?_set_self hl, hg, hf, hm, hp, rv⟩
    · obtain ⟨a, ws, k1, k2⟩ := r.owns j ys h
      exact ⟨a, ws, by rw [List.getElem?_set_ne (Ne.symm hj)]; exact k1, k2⟩
  apart := fun j k xs' ys' a h1 h2 h3 h4 => by
    rcases set_own h1 with ⟨hj, _⟩ | ⟨hj, q1⟩ <;> rcases set_own h2 with ⟨hk, _⟩ | ⟨hk, q2⟩
    · rw [hj, hk]
    · exfalso
      subst hj
      have hl : j < σ.length := by
        have := (List.getElem?_eq_some_iff.mp h3).1
        simpa using this
      rw [List.getElem?_set_self hl] at h3
      rw [List.getElem?_set_ne (Ne.symm hk)] at h4
      cases h3
      exact hs k ys' q2 h4
    · exfalso
      subst hk
      have hl : k < σ.length := by
        have := (List.getElem?_eq_some_iff.mp h4).1
        simpa using this
      rw [List.getElem?_set_self hl] at h4
      rw [List.getElem?_set_ne (Ne.symm hj)] at h3
      cases h4
      exact hs j xs' q1 h3
    · rw [List.getElem?_set_ne (Ne.symm hj)] at h3
      rw [List.getElem?_set_ne (Ne.symm hk)] at h4
      exact r.apart j k xs' ys' a q1 q2 h3 h4
  len := by simpa using r.len
/-- one's own list is written -/
theorem SR.writeOwn (r : SR nm K fr ρ G e M σ H) {i : Nat} {xs ys : List D} (hi : e[i]? = some (.own xs)) {p : Addr} (hp : σ[i]? = some (some (.ref p))) {ws : List V} (rv : Rps K ρ G ys ws) :
    SR nm K fr ρ G (e.set i (.own ys)) M σ (upd H p (.lst ws)) := by
  obtain ⟨p', vs, k1, k2, k3, k4, k5, k6⟩ := r.owns i xs hi
  rw [hp] at k1; cases k1
  have hl : i < e.length := (List.getElem?_eq_some_iff.mp hi).1
  refine ⟨r.wf.writeOff k2 k4 (Soft.lst k5) (fun _ z => by cases z), r.kp.writeOff k3 _, fun j d h => ?_, fun j zs h => ?_, fun j k xs' ys' a h1 h2 h3 h4 => ?_, by simpa using r.len⟩
  · rcases set_own h with ⟨_, z⟩ | ⟨hj, h⟩
    · cases z
    · exact r.vals j d h
  · rcases set_own h with ⟨hj, z⟩ | ⟨hj, h⟩
    · cases z; subst hj
      exact ⟨p, ws, hp, k2, k3, k4, upd_same, rv⟩
    · obtain ⟨a, us, q1, q2, q3, q4, q5, q6⟩ := r.owns j zs h
      have n : a ≠ p := fun z => hj (r.apart j i zs xs a h hi q1 (z ▸ hp))
      exact ⟨a, us, q1, q2, q3, q4, by rw [upd_ne n]; exact q5, q6⟩
  · have old : ∀ {j : Nat} {ys' : List D}, (e.set i (Sl.own ys))[j]? = some (Sl.own ys') → ∃ zs : List D, e[j]? = some (Sl.own zs) := fun {j ys'} h => by
      rcases set_own h with ⟨hj, _⟩ | ⟨_, h⟩
      · subst hj; exact ⟨_, hi⟩
      · exact ⟨_, h⟩
    obtain ⟨z1, h1⟩ := old h1
    obtain ⟨z2, h2⟩ := old h2
    exact r.apart j k z1 z2 a h1 h2 h3 h4
/-- a mutable object is written -/
theorem Wf.write (w : Wf nm K ρ G M H) {i : Nat} {p : Addr} (hp : ρ[i]? = some p) {o : HO} {m : MO} (hr : ∀ H', H' p = some o → MRep nm K ρ G H' p m) (hsf : Soft H p) (ho : ∀ ps, o ≠ .tbl ps) : Wf nm K ρ G (M.set i m) (upd H p o) where
  sub := fun b u q => by
    have n : b ≠ p := fun z => by rw [z, (w.off p (List.mem_of_getElem? hp)).1] at q; cases q
    rw [upd_ne n]; exact w.sub b u q
  len := by simpa using w.len
  nd := w.nd
  off := fun b m => by
    exact ⟨(w.off b m).1, (w.off b m).2.wr1 ho⟩
  obj := fun j m' b hm hb => by
    by_cases hj : j = i
    · subst hj
      rw [hp] at hb; cases hb
      have hl : j < M.length := by
        have := (List.getElem?_eq_some_iff.mp hm).1
        simpa using this
      rw [List.getElem?_set_self hl] at hm
      cases hm
      exact hr _ upd_same
    · rw [List.getElem?_set_ne (Ne.symm hj)] at hm
      have n : b ≠ p := fun z => by
        subst z
        have h1 := (List.getElem?_eq_some_iff.mp hb)
        have h2 := (List.getElem?_eq_some_iff.mp hp)
        obtain ⟨l1, e1⟩ := h1
        obtain ⟨l2, e2⟩ := h2
        exact hj ((List.getElem_inj w.nd).mp (e1.trans e2.symm))
      exact (w.obj j m' b hm hb).mono (Same.refl _) (Pre.refl _) (upd_ne n)
  gt := w.gt
  tabs := tab_wr w.tabs hsf
  tfr := w.tfr
theorem Kp.write {p : Addr} (hp : p ∈ ρ) (o : HO) (ho : ∀ ps, o ≠ .tbl ps := by intro _ z; cases z) : Kp ρ G H ρ G (upd H p o) where
  pre := Pre.refl _
  keep := fun a u q _ m => by rw [upd_ne (fun z => m (z ▸ hp) : a ≠ p)]; exact q
  fresh := fun _ _ => rfl
  grow := Same.refl _
  nu := fun _ m => .inl m
  live := fun a q => q.wr1 ho
end

section
variable {X : Cx} {nm : Nm} {W : WX} {pos : Pos} {a b c : Expr} {es : List Expr} {fa fb fc : Ev → List MO → Out D} {ft : Ev → List MO → Out Bool} {ga : Ev → List MO → Out (List D)} {fs fu : Ev → List MO → Out Fl} {ss tt : List Stmt}
abbrev nxt : Ev → List MO → Out Fl := fun e M => .ok .nx e M
theorem sS_nil : PSs X [] (tS nm X.K W nxt) := pss_nil.imp fun E σ H ⟨fr, ρ, G, e, M, r, h⟩ => h σ H G ρ (Same.refl _) (Pre.refl _) r
def seqF (f g : Ev → List MO → Out Fl) (e : Ev) (M : List MO) : Out Fl := match f e M with
  | .ok .nx e M => g e M
  | x => x
theorem sS_cons {s : Stmt} (h1 : PS X s (tS nm X.K W fs)) (h2 : PSs X ss (tS nm X.K W fu)) : PSs X (s :: ss) (tS nm X.K W (seqF fs fu)) := by
  refine (pss_cons h1 h2).imp fun E σ H ⟨fr, ρ, G, e, M, r, h⟩ => ?_
  refine ⟨fr, ρ, G, e, M, r, ?_⟩
  unfold seqF at h
  cases q : fs e M with
  | bad => rw [q] at h; exact h
  | err k fv e' M' => rw [q] at h; exact h
  | ok fl e' M' =>
    rw [q] at h
    cases fl with
    | nx => exact fun σ' H' G' ρ' g p r' => ⟨fr, ρ', G', e', M', r', pG.mono gdS_mono g p h⟩
    | rt d => exact h
    | bk => exact h
    | ct => exact h
theorem sS_pass : PS X (.Pass pos) (tS nm X.K W nxt) := ps_pass.imp fun E σ H ⟨fr, ρ, G, e, M, r, h⟩ => h σ H G ρ (Same.refl _) (Pre.refl _) r
theorem sS_brk : PS X (.Break pos) (tS nm X.K W fun e M => .ok .bk e M) := ps_break.imp fun E σ H ⟨fr, ρ, G, e, M, r, h⟩ => h σ H G ρ (Same.refl _) (Pre.refl _) r
theorem sS_cont : PS X (.Continue pos) (tS nm X.K W fun e M => .ok .ct e M) := ps_continue.imp fun E σ H ⟨fr, ρ, G, e, M, r, h⟩ => h σ H G ρ (Same.refl _) (Pre.refl _) r
theorem sS_retN : PS X (.Return none pos) (tS nm X.K W fun e M => .ok (.rt .non) e M) := ps_retN.imp fun E σ H ⟨fr, ρ, G, e, M, r, h⟩ => h _ σ H G ρ (Same.refl _) (Pre.refl _) r .non
theorem sS_ret (ha : PE X a (tE nm X.K W fa)) : PS X (.Return (some a) pos) (tS nm X.K W fun e M => (fa e M).bind fun d e M => .ok (.rt d) e M) := by
  refine (ps_ret ha).imp fun E σ H ⟨fr, ρ, G, e, M, r, h⟩ => ?_
  exact tE.bind gdS_mono r h fun ρ1 G1 e1 M1 d v H1 g1 p1 s1 r1 h1 => h1 v σ H1 G1 ρ1 (Same.refl _) (Pre.refl _) s1 r1
theorem sS_ite (hc : PT X c (tT nm X.K W ft)) (ha : PSs X ss (tS nm X.K W fs)) (hb : PSs X tt (tS nm X.K W fu)) : PS X (.If c ss tt pos) (tS nm X.K W fun e M => (ft e M).bind fun k e M => match k with | true => fs e M | false => fu e M) := by
  refine (ps_if hc ha hb).imp fun E σ H ⟨fr, ρ, G, e, M, r, h⟩ => ?_
  refine tT.bind gdS_mono r h fun ρ1 G1 e1 M1 k H1 g1 p1 s1 h1 => ?_
  cases k with
  | true => exact iteT ⟨fr, ρ1, G1, e1, M1, s1, h1⟩
  | false => exact iteF ⟨fr, ρ1, G1, e1, M1, s1, h1⟩
theorem sS_expr (ha : PE X a (tE nm X.K W fa)) (hs : swapsWith a none pos.line X.env = pure false) : PS X (.Expr a pos) (tS nm X.K W fun e M => (fa e M).bind fun d e M => .ok .nx e M) := by
  refine (ps_expr ha hs).imp fun E σ H ⟨fr, ρ, G, e, M, r, h⟩ => ?_
  exact tE.bind gdS_mono r h fun ρ1 G1 e1 M1 d v H1 g1 p1 s1 r1 h1 => h1 σ H1 G1 ρ1 (Same.refl _) (Pre.refl _) s1
/-- a name is stored -/
theorem sS_asg {i : Nat} {x : Str} {px : Pos} (ha : PE X a (tE nm X.K W fa)) (hg : PG X (.Name x px) (gName i)) (hs : swapsWithSole [.Name x px] a pos.line X.env = pure false) (hw : swappedStores [.Name x px] a X.env = pure none) :
    PS X (.Assign [.Name x px] a pos) (tS nm X.K W fun e M => (fa e M).bind fun d e M => .ok .nx (e.set i (.val d)) M) := by
  refine (ps_asg ha hg hs hw rfl).imp fun E σ H ⟨fr, ρ, G, e, M, r, h⟩ => ?_
  exact tE.bind gdS_mono r h fun ρ1 G1 e1 M1 d v H1 g1 p1 s1 r1 h1 => h1 _ H1 G1 ρ1 (Same.refl _) (Pre.refl _) (s1.setv r1)
/-- a name is stored: a new list of one's own -/
theorem sS_asgO {i : Nat} {x : Str} {px pl : Pos} (hx : PA X es (tA nm X.K W ga)) (hg : PG X (.Name x px) (gName i)) (hs : swapsWithSole [.Name x px] (.List es pl) pos.line X.env = pure false) (hw : swappedStores [.Name x px] (.List es pl) X.env = pure none) :
    PS X (.Assign [.Name x px] (.List es pl) pos) (tS nm X.K W fun e M => (ga e M).bind fun ds e M => if ds.length ≤ lim then .ok .nx (e.set i (.own ds)) M else .bad) := by
  refine (ps_asg (pe_lst hx) hg hs hw rfl).imp fun E σ H ⟨fr, ρ, G, e, M, r, h⟩ => ?_
  refine tA.bind gdS_mono r h fun ρ1 G1 e1 M1 ds vs H1 g1 p1 s1 r1 h1 => ?_
  split at h1
  · rename_i c
    refine ⟨by rw [← r1.length]; exact Nat.le_trans c lim_line, fun p hp => ?_⟩
    have hf : ¬ NT fr.H p := fun z => NT.no hp (s1.kp.live p z)
    have hn := s1.wf.none_of hp
    have hm := s1.wf.nin_of hp
    have s2 : SR nm X.K fr ρ1 G1 e1 M1 σ (upd H1 p (.lst vs)) := s1.step (Kp.refl.writeOff (NT.no hp) _) (s1.wf.writeOff hn hm (Soft.none hp) (fun _ z => by cases z))
    refine h1 _ _ G1 ρ1 (Same.refl _) (Pre.refl _) (s2.newOwn upd_same hn hm hf (fun j ys q z => ?_) r1)
    obtain ⟨a, ws, k1, _, _, _, k5, _⟩ := s1.owns j ys q
    rw [z] at k1; cases k1
    rw [hp] at k5; cases k5
  · exact h1.elim
/-- o.f = e -/
theorem sS_fset {f : Nat} {o : Expr} {fo : Ev → List MO → Out D} {po : Pos} (ho : PE X o (tE nm X.K W fo)) (ha : PE X a (tE nm X.K W fa)) (hs : swapsWith a (some (.Attribute o (nm.fld f) po)) pos.line X.env = pure false)
    (inj : ∀ g, nm.fld g = nm.fld f → g = f) (hc : ∀ k, Cls X.K (nm.cls k) ∧ NoAttr X.K (nm.cls k) (nm.fld f)) :
    PS X (.Assign [.Attribute o (nm.fld f) po] a pos) (tS nm X.K W fun e M => (fa e M).bind fun d e M => (fo e M).bind fun x e M => match insOf x M with
      | some (i, c, fs) => if fs.length ≤ 100 then .ok .nx e (M.set i (.ins c (putD f d fs))) else .bad
      | none => .bad) := by
  refine (ps_fld ho ha hs).imp fun E σ H ⟨fr, ρ, G, e, M, r, h⟩ => ?_
  refine tE.bind gdS_mono r h fun ρ1 G1 e1 M1 d v H1 g1 p1 s1 r1 h1 => ?_
  refine tE.bind gdS_mono s1 h1 fun ρ2 G2 e2 M2 x w H2 g2 p2 s2 r2 h2 => ?_
  have r1' := r1.mono g2 p2
  cases r2 with
  | @ref p i ei =>
    simp only [insOf] at h2
    cases hm : M2[i]? with
    | none => rw [hm] at h2; exact h2.elim
    | some m =>
      rw [hm] at h2
      cases m with
      | ins c fs =>
        obtain ⟨dx, q, k1, k2⟩ := s2.wf.obj _ _ _ hm ei
        simp only at h2
        split at h2
        · rename_i hl
          have fl : ∀ {fs : List (Nat × D)} {q : List (Str × V)}, Rfs nm X.K ρ2 G2 fs q → fs.length = q.length := by
            intro fs q r
            induction r with
            | nil => rfl
            | cons _ _ ih => simp [ih]
          have put : ∀ {fs : List (Nat × D)} {q : List (Str × V)}, Rfs nm X.K ρ2 G2 fs q → Rfs nm X.K ρ2 G2 (putD f d fs) (putF (nm.fld f) v q) := by
            intro fs q r
            induction r with
            | nil => exact .cons r1' .nil
            | @cons g d' v' r q rd rr ih =>
              by_cases hg : f = g
              · subst hg
                simp only [putD, if_true, putF]
                exact .cons r1' rr
              · have n2 : ¬ nm.fld f = nm.fld g := fun z => hg (inj g z.symm).symm
                simp only [putD, if_neg hg, putF]
                first
                  | (rw [if_neg n2]; exact .cons rd ih)
                  | (rw [if_neg (fun z => n2 z.symm)]; exact .cons rd ih)
          refine ⟨_, _, dx, q, rfl, k1, (hc c).1, (hc c).2, by rw [← fl k2]; omega, ?_⟩
          exact h2 σ _ G2 ρ2 (Same.refl _) (Pre.refl _) (s2.step (Kp.write (List.mem_of_getElem? ei) _) (s2.wf.write (m := .ins _ (putD f _ _)) ei (fun H' hH => ⟨dx, _, hH, put k2⟩) (Soft.ins k1) (fun _ z => by cases z)))
        · exact h2.elim
      | lst _ => exact h2.elim
      | dead => exact h2.elim
  | _ => exact h2.elim
end
end PM

namespace PM
open PySem PySem.Spec PyProof.Rows L2

/-! ### what the built-in functions give -/
def lenB : List D → Option D
  | [.str x] => if x.length ≤ lim then some (.int x.length) else none
  | [.tup xs] => some (.int xs.length)
  | [.lst xs] => some (.int xs.length)
  | [.scr xs] => some (.int xs.length)
  | _ => none
def sumB : List D → Option D
  | [.tup xs] => (sumD xs).map .int
  | [.lst xs] => (sumD xs).map .int
  | _ => none
def allB : List D → Option D
  | [.lst xs] => (blsD xs).map fun l => .bl (l.all id)
  | _ => none
def anyB : List D → Option D
  | [.lst xs] => (blsD xs).map fun l => .bl (l.any id)
  | _ => none
def maxB : List D → Option D
  | [.int i, .int j] => some (.int (if j > i then j else i))
  | _ => none
def minB : List D → Option D
  | [.int i, .int j] => some (.int (if j < i then j else i))
  | _ => none
def absB : List D → Option D
  | [.int i] => some (.int (if i < 0 then -i else i))
  | _ => none
def intB : List D → Option D
  | [.int i] => some (.int i)
  | [.bl k] => some (.int (if k then 1 else 0))
  | _ => none
def strB : List D → Option D
  | [.int i] => if i.natAbs.log2 < 1920 then some (.str (toString i)) else none
  | _ => none
def tupleB : List D → Option D
  | [.lst xs] => some (.tup xs)
  | [.tup xs] => some (.tup xs)
  | _ => none
def listB : List D → Option D
  | [.lst xs] => some (.lst xs)
  | [.tup xs] => some (.lst xs)
  | _ => none
def divmodB : List D → Option D
  | [.int i, .int j] => if 0 < j && decide (j < 1073741824) then some (.tup [.int (i / j), .int (i % j)]) else none
  | _ => none

section
variable {nm : Nm} {X : Cx}
theorem Rps.one {K : Frg} {ρ : List Addr} {G : Hp} {d : D} {vs : List V} (r : Rps K ρ G [d] vs) : ∃ v, vs = [v] ∧ Rp K ρ G d v := by
  cases r with
  | cons a b => cases b; exact ⟨_, rfl, a⟩
theorem Rps.two {K : Frg} {ρ : List Addr} {G : Hp} {d d' : D} {vs : List V} (r : Rps K ρ G [d, d'] vs) : ∃ v v', vs = [v, v'] ∧ Rp K ρ G d v ∧ Rp K ρ G d' v' := by
  cases r with
  | cons a b =>
    obtain ⟨v, rfl, c⟩ := b.one
    exact ⟨_, _, rfl, a, c⟩
theorem CallR.imp {f : Value} {r r' : List V → Hp → VK → Prop} (h : CallR X f r) (k : ∀ xs H Q, r' xs H Q → r xs H Q) : CallR X f r' := fun pins s σ H xs us Q I rv q => h pins s σ H xs us Q I rv (k xs H Q q)

theorem b_len : CallR X (.builtin "len") (rBi X.K lenB) := CallR.imp call_len fun xs H Q ⟨ρ, G, ds, d, hs, r, h, q⟩ => by
  unfold lenB at h
  split at h
  · obtain ⟨v, rfl, a⟩ := r.one
    cases a
    rw [Option.ite_none_right_eq_some] at h
    obtain ⟨hl, h⟩ := h
    cases h
    exact ⟨_, _, rfl, ⟨Nat.le_trans hl lim_line, rfl⟩, q.sc (.int _)⟩
  · obtain ⟨v, rfl, a⟩ := r.one
    cases h
    cases a with
    | tup s b => exact ⟨_, _, rfl, .inr ⟨_, SqT.up hs s, rfl⟩, by rw [← b.length]; exact q.sc (.int _)⟩
  · obtain ⟨v, rfl, a⟩ := r.one
    cases h
    cases a with
    | lst s b => exact ⟨_, _, rfl, .inl ⟨_, .inl (.inl (hs _ _ s)), rfl⟩, by rw [← b.length]; exact q.sc (.int _)⟩
  · obtain ⟨v, rfl, a⟩ := r.one
    cases h
    cases a with
    | scr s => exact ⟨_, _, rfl, .inl ⟨_, SqL.mono hs s, rfl⟩, by rw [List.length_map]; exact q.sc (.int _)⟩
  · cases h

/-- sum of a tuple of ints -/
theorem sum_tup {prog : Program} {w : World} {A : Around} {E : Value → Shared → Prop} {s : Shared} {l : Addr} {its : List Value} {ns : List Int} {Q : Value → Shared → Prop} (hh : A.handled = none) (hl : s.heap.IsTuple l its.toArray) (hi : IntsAre its ns)
    (h : ∀ h' tk t', (∀ b o, s.heap.get? b = some o → h'.get? b = some o) → Q (.int ns.sum t') { s with heap := h', toks := tk }) : wpAny (model prog w) A (call (.builtin "sum") [.ref l]) Q E s := by
  obtain ⟨xs, e⟩ := hi.allInts.items
  have hn : numsOf (intItems xs).toList = ns := by rw [← e]; exact hi.numsOf
  rw [nums_intItems] at hn
  rw [e] at hl
  have hlt : l < s.heap.objs.size := by obtain ⟨_, e, _⟩ := hl; exact Heap.lt_size e
  refine call_sum_walkG (wpAny_pyIter_tuple hl ?_)
  have hst : (s.heap.push { cls := .type "tuple_iterator", data := .fields #[.ref l, .int 0 0] }).IsTupleIter s.heap.objs.size l 0 := ⟨_, Heap.get?_push_size _ rfl, rfl, rfl⟩
  refine ⟨_, _, _, _, _, _, numAt xs, rfl, Walks.tuple (A := A.in1) hh _ l (Nat.ne_of_lt hlt) (intItems xs), ⟨hst, hl.push _⟩, ?_, (fun _ _ => intItems_at), fun h' tk t' hk => ?_⟩
  · intro b hb
    simp only [List.mem_cons, List.not_mem_nil, or_false] at hb
    rcases hb with rfl | rfl
    · exact Heap.lt_size (Heap.get?_push_size s.heap rfl)
    · obtain ⟨_, e1, _⟩ := hl.push _
      exact Heap.lt_size e1
  · have := h h' tk t' (fun b o e => hk b o (fun hm => by
      rcases List.mem_singleton.mp hm with rfl
      exact absurd (Heap.lt_size e) (Nat.lt_irrefl _)) (Heap.get?_push_of_some _ e))
    rw [preSum_eq, List.take_of_length_le (by simp [intItems]), hn]; exact this
theorem b_sum (hc : X.calm = true) : CallR X (.builtin "sum") (rBi X.K sumB) := by
  have h2 : CallR X (.builtin "sum") (fun vs H Q => ∃ (a : Addr) (ns : List Int), vs = [V.ref a] ∧ SqT X.K H a (ns.map V.int) ∧ Q (.int ns.sum) H) := by
    intro pins s σ H vs us Q I r h
    obtain ⟨a, ns, rfl, hs, q⟩ := h
    obtain ⟨its, rv, hl, _⟩ := I.tuple hs
    rw [Vals.ref1 r]
    exact sum_tup (I.ok.hd hc) hl rv.ints fun h' tk t' hk => ⟨.int _, H, I.kept hk, ⟨_, rfl⟩, q⟩
  refine CallR.imp ((cr_sum hc).or h2) fun xs H Q ⟨ρ, G, ds, d, hs, r, h, q⟩ => ?_
  unfold sumB at h
  split at h
  · obtain ⟨v, rfl, a⟩ := r.one
    simp only [sumD, Option.map_map, Option.map_eq_some_iff] at h
    obtain ⟨is, h1, rfl⟩ := h
    cases a with
    | tup s b =>
      have := b.ints h1
      subst this
      exact .inr ⟨_, _, rfl, SqT.up hs s, q.sc (.int _)⟩
  · obtain ⟨v, rfl, a⟩ := r.one
    simp only [sumD, Option.map_map, Option.map_eq_some_iff] at h
    obtain ⟨is, h1, rfl⟩ := h
    cases a with
    | lst s b =>
      have := b.ints h1
      subst this
      exact .inl ⟨_, _, rfl, .inl (.inl (hs _ _ s)), q.sc (.int _)⟩
  · cases h
theorem b_all (hc : X.calm = true) : CallR X (.builtin "all") (rBi X.K allB) := CallR.imp (cr_all hc) fun xs H Q ⟨ρ, G, ds, d, hs, r, h, q⟩ => by
  unfold allB at h
  split at h
  · obtain ⟨v, rfl, a⟩ := r.one
    simp only [Option.map_eq_some_iff] at h
    obtain ⟨is, h1, rfl⟩ := h
    cases a with
    | lst s b =>
      have := b.bls h1
      subst this
      exact ⟨_, _, rfl, .inl (.inl (hs _ _ s)), q.sc (.bl _)⟩
  · cases h
theorem b_any (hc : X.calm = true) : CallR X (.builtin "any") (rBi X.K anyB) := CallR.imp (cr_any hc) fun xs H Q ⟨ρ, G, ds, d, hs, r, h, q⟩ => by
  unfold anyB at h
  split at h
  · obtain ⟨v, rfl, a⟩ := r.one
    simp only [Option.map_eq_some_iff] at h
    obtain ⟨is, h1, rfl⟩ := h
    cases a with
    | lst s b =>
      have := b.bls h1
      subst this
      exact ⟨_, _, rfl, .inl (.inl (hs _ _ s)), q.sc (.bl _)⟩
  · cases h
theorem b_max (hc : X.calm = true) : CallR X (.builtin "max") (rBi X.K maxB) := CallR.imp (call_max2 hc) fun xs H Q ⟨ρ, G, ds, d, hs, r, h, q⟩ => by
  unfold maxB at h
  split at h
  · obtain ⟨v, v', rfl, a, b⟩ := r.two
    cases a; cases b; cases h
    exact ⟨_, _, rfl, q.sc (.int _)⟩
  · cases h
theorem b_min (hc : X.calm = true) : CallR X (.builtin "min") (rBi X.K minB) := CallR.imp (call_min2 hc) fun xs H Q ⟨ρ, G, ds, d, hs, r, h, q⟩ => by
  unfold minB at h
  split at h
  · obtain ⟨v, v', rfl, a, b⟩ := r.two
    cases a; cases b; cases h
    exact ⟨_, _, rfl, q.sc (.int _)⟩
  · cases h
theorem b_abs : CallR X (.builtin "abs") (rBi X.K absB) := CallR.imp call_abs fun xs H Q ⟨ρ, G, ds, d, hs, r, h, q⟩ => by
  unfold absB at h
  split at h
  · obtain ⟨v, rfl, a⟩ := r.one
    cases a; cases h
    exact ⟨_, rfl, q.sc (.int _)⟩
  · cases h
theorem b_int : CallR X (.type "int") (rBi X.K intB) := CallR.imp call_int1 fun xs H Q ⟨ρ, G, ds, d, hs, r, h, q⟩ => by
  unfold intB at h
  split at h
  · obtain ⟨v, rfl, a⟩ := r.one
    cases a; cases h
    exact .inl ⟨_, rfl, q.sc (.int _)⟩
  · obtain ⟨v, rfl, a⟩ := r.one
    cases a; cases h
    exact .inr ⟨_, rfl, q.sc (.int _)⟩
  · cases h
theorem b_str : CallR X (.type "str") (rBi X.K strB) := CallR.imp call_str_int fun xs H Q ⟨ρ, G, ds, d, hs, r, h, q⟩ => by
  unfold strB at h
  split at h
  · obtain ⟨v, rfl, a⟩ := r.one
    cases a
    rw [Option.ite_none_right_eq_some] at h
    obtain ⟨hl, h⟩ := h
    cases h
    exact ⟨_, rfl, hl, q.sc (.str _)⟩
  · cases h
theorem b_tuple : CallR X (.type "tuple") (rBi X.K tupleB) := CallR.imp call_tuple_of fun xs H Q ⟨ρ, G, ds, d, hs, r, h, q⟩ => by
  unfold tupleB at h
  split at h
  · obtain ⟨v, rfl, a⟩ := r.one
    cases h
    cases a with
    | lst s b => exact ⟨_, _, rfl, .inl ⟨.inl (.inl (hs _ _ s)), q.tup hs b⟩⟩
  · obtain ⟨v, rfl, a⟩ := r.one
    cases h
    cases a with
    | tup s b => exact ⟨_, _, rfl, .inr ⟨SqT.up hs s, q.sc (.tup s b)⟩⟩
  · cases h
theorem b_list : CallR X (.type "list") (rBi X.K listB) := CallR.imp call_list_of fun xs H Q ⟨ρ, G, ds, d, hs, r, h, q⟩ => by
  unfold listB at h
  split at h
  · obtain ⟨v, rfl, a⟩ := r.one
    cases h
    cases a with
    | lst s b => exact ⟨_, _, rfl, .inl (.inl (.inl (hs _ _ s))), q.lst hs b⟩
  · obtain ⟨v, rfl, a⟩ := r.one
    cases h
    cases a with
    | tup s b => exact ⟨_, _, rfl, .inr (SqT.up hs s), q.lst hs b⟩
  · cases h
theorem b_divmod : CallR X (.builtin "divmod") (rBi X.K divmodB) := CallR.imp call_divmod fun xs H Q ⟨ρ, G, ds, d, hs, r, h, q⟩ => by
  unfold divmodB at h
  split at h
  · obtain ⟨v, v', rfl, a, b⟩ := r.two
    cases a; cases b
    rw [Option.ite_none_right_eq_some] at h
    obtain ⟨hl, h⟩ := h
    cases h
    simp only [Bool.and_eq_true, decide_eq_true_eq] at hl
    exact ⟨_, _, rfl, ⟨hl.1, hl.2⟩, q.tup hs (.cons (.int _) (.cons (.int _) .nil))⟩
  · cases h
end
end PM

namespace PM
open PySem PySem.Spec PyProof.Rows L2

/-! ### sorting by halves, by fuel -/
section
variable {α : Type}
def putM (x : α) (le : α → α → Bool) (f : List α → List α) : List α → List α
  | [] => x :: f []
  | y :: ys => if le x y then x :: f (y :: ys) else y :: putM x le f ys
def mergeM (le : α → α → Bool) : List α → List α → List α
  | [] => fun ys => ys
  | x :: xs => putM x le (mergeM le xs)
def msort (le : α → α → Bool) : Nat → List α → List α
  | 0, xs => xs
  | _ + 1, [] => []
  | _ + 1, [x] => [x]
  | n + 1, x :: y :: r => mergeM le (msort le n ((x :: y :: r).take ((x :: y :: r).length / 2))) (msort le n ((x :: y :: r).drop ((x :: y :: r).length / 2)))
theorem putM_perm {x : α} {le : α → α → Bool} {xs : List α} {f : List α → List α} (hf : ∀ ys, (f ys).Perm (xs ++ ys)) : ∀ ys, (putM x le f ys).Perm (x :: xs ++ ys)
  | [] => (hf []).cons x
  | y :: ys => by
    unfold putM
    split
    · exact (hf _).cons x
    · refine ((putM_perm hf ys).cons y).trans ?_
      exact (List.perm_middle (l₁ := x :: xs)).symm
theorem mergeM_perm {le : α → α → Bool} : ∀ xs ys : List α, (mergeM le xs ys).Perm (xs ++ ys)
  | [], ys => List.Perm.refl _
  | x :: xs, ys => putM_perm (mergeM_perm xs) ys
theorem msort_perm {le : α → α → Bool} : ∀ (n : Nat) (xs : List α), (msort le n xs).Perm xs
  | 0, xs => List.Perm.refl _
  | _ + 1, [] => List.Perm.refl _
  | _ + 1, [x] => List.Perm.refl _
  | n + 1, x :: y :: r => by
    unfold msort
    refine (mergeM_perm _ _).trans ?_
    refine ((msort_perm n _).append (msort_perm n _)).trans ?_
    rw [List.take_append_drop]
theorem putM_srt {x : α} {le : α → α → Bool} (tot : ∀ a b, le a b = false → le b a = true) (tr : ∀ a b c, le a b = true → le b c = true → le a c = true) {xs : List α} {f : List α → List α} (hf : ∀ ys, (f ys).Perm (xs ++ ys))
    (hs : ∀ ys, ys.Pairwise (fun a b => le a b = true) → (f ys).Pairwise (fun a b => le a b = true)) (hx : ∀ z ∈ xs, le x z = true) : ∀ ys, ys.Pairwise (fun a b => le a b = true) → (putM x le f ys).Pairwise (fun a b => le a b = true)
  | [], _ => by
    unfold putM
    refine List.pairwise_cons.mpr ⟨fun z hz => hx z ?_, hs [] List.Pairwise.nil⟩
    have := (hf []).mem_iff.mp hz
    simpa using this
  | y :: ys, hp => by
    obtain ⟨h1, h2⟩ := List.pairwise_cons.mp hp
    unfold putM
    split
    · rename_i hxy
      refine List.pairwise_cons.mpr ⟨fun z hz => ?_, hs _ hp⟩
      rcases List.mem_append.mp ((hf _).mem_iff.mp hz) with m | m
      · exact hx z m
      · rcases List.mem_cons.mp m with rfl | m
        · exact hxy
        · exact tr _ _ _ hxy (h1 z m)
    · rename_i hxy
      have hyx : le y x = true := tot _ _ (by simpa using hxy)
      refine List.pairwise_cons.mpr ⟨fun z hz => ?_, putM_srt tot tr hf hs hx ys h2⟩
      have m := (putM_perm (x := x) (le := le) hf ys).mem_iff.mp hz
      rcases List.mem_append.mp m with m | m
      · rcases List.mem_cons.mp m with rfl | m
        · exact hyx
        · exact tr _ _ _ hyx (hx z m)
      · exact h1 z m
theorem mergeM_srt {le : α → α → Bool} (tot : ∀ a b, le a b = false → le b a = true) (tr : ∀ a b c, le a b = true → le b c = true → le a c = true) :
    ∀ xs ys : List α, xs.Pairwise (fun a b => le a b = true) → ys.Pairwise (fun a b => le a b = true) → (mergeM le xs ys).Pairwise (fun a b => le a b = true)
  | [], ys, _, h => h
  | x :: xs, ys, h1, h2 => by
    obtain ⟨k1, k2⟩ := List.pairwise_cons.mp h1
    exact putM_srt tot tr (mergeM_perm xs) (fun ys h => mergeM_srt tot tr xs ys k2 h) k1 ys h2
theorem msort_srt {le : α → α → Bool} (tot : ∀ a b, le a b = false → le b a = true) (tr : ∀ a b c, le a b = true → le b c = true → le a c = true) :
    ∀ (n : Nat) (xs : List α), xs.length ≤ 2 ^ n → (msort le n xs).Pairwise (fun a b => le a b = true)
  | 0, xs, h => by
    unfold msort
    match xs, h with
    | [], _ => exact List.Pairwise.nil
    | [x], _ => exact List.pairwise_singleton _ _
    | _ :: _ :: _, h => simp at h
  | _ + 1, [], _ => List.Pairwise.nil
  | _ + 1, [x], _ => List.pairwise_singleton _ _
  | n + 1, x :: y :: r, h => by
    unfold msort
    have e : 2 ^ (n + 1) = 2 * 2 ^ n := by rw [Nat.pow_succ, Nat.mul_comm]
    refine mergeM_srt tot tr _ _ (msort_srt tot tr n _ ?_) (msort_srt tot tr n _ ?_)
    · rw [List.length_take]; omega
    · rw [List.length_drop]; omega
/-- one sorted order alone -/
theorem perm_srt {R : α → α → Prop} : ∀ {l m : List α}, l.Perm m → l.Pairwise R → m.Pairwise R → (∀ a ∈ l, ∀ b ∈ l, R a b → R b a → a = b) → l = m
  | [], m, p, _, _, _ => (List.Perm.nil_eq p)
  | a :: l, [], p, _, _, _ => by have := p.length_eq; simp at this
  | a :: l, b :: m, p, h1, h2, an => by
    obtain ⟨h1a, h1b⟩ := List.pairwise_cons.mp h1
    obtain ⟨h2a, h2b⟩ := List.pairwise_cons.mp h2
    have hb : b ∈ a :: l := p.mem_iff.mpr List.mem_cons_self
    have ha : a ∈ b :: m := p.mem_iff.mp List.mem_cons_self
    have e : a = b := by
      rcases List.mem_cons.mp hb with hb' | hb'
      · exact hb'.symm
      rcases List.mem_cons.mp ha with ha' | ha'
      · exact ha'
      exact an a List.mem_cons_self b (List.mem_cons_of_mem _ hb') (h1a b hb') (h2a a ha')
    subst e
    rw [perm_srt (List.Perm.cons_inv p) h1b h2b fun x hx y hy => an x (List.mem_cons_of_mem _ hx) y (List.mem_cons_of_mem _ hy)]
end

/-! ### the order of nested tuples of ints -/
mutual
def shpD : Nat → D → Bool
  | 0, .int _ => true
  | n + 1, .tup xs => shpDs n xs
  | _, _ => false
def shpDs : Nat → List D → Bool
  | _, [] => true
  | n, x :: r => shpD n x && shpDs n r
end
mutual
def toks : D → List Int
  | .int i => [i]
  | .tup xs => tokss xs
  | _ => []
def tokss : List D → List Int
  | [] => [0]
  | x :: r => 1 :: (toks x ++ tokss r)
end
def leT (a b : List Int × D) : Bool := !HT.lexLt b.1 a.1
def sortD (xs : List D) : List D := (msort leT 20 (xs.map fun x => (toks x, x))).map (·.2)
def sortB : List D → Option D
  | [.lst (.tup [] :: xs)] => if (shpDs 2 xs || shpDs 3 xs) && decide (xs.length + 1 ≤ lim) then some (.lst (sortD (.tup [] :: xs))) else none
  | _ => none

open PySem.W in
mutual
theorem shp_facts : ∀ (n : Nat) (a b : D), shpD n a = true → shpD n b = true → (alike a.toP b.toP = true ∧ a.isData = true ∧ a.dep ≤ n) ∧ ∀ l m, toks a ++ l = toks b ++ m → a = b ∧ l = m
  | 0, .int i, .int j, _, _ => ⟨⟨by simp [D.toP, alike], by simp [D.isData], by simp [D.dep]⟩, fun l m h => by simpa [toks] using h⟩
  | n + 1, .tup xs, .tup ys, h1, h2 => by
    obtain ⟨⟨a1, a2, a3⟩, b⟩ := shps_facts n xs ys (by simpa [shpD] using h1) (by simpa [shpD] using h2)
    refine ⟨⟨by simpa [D.toP, alike] using a1, by simpa [D.isData] using a2, by simpa [D.dep] using a3⟩, fun l m h => ?_⟩
    obtain ⟨e1, e2⟩ := b l m (by simpa [toks] using h)
    exact ⟨by rw [e1], e2⟩
  | 0, .non, _, h, _ => by simp [shpD] at h
  | 0, .bl _, _, h, _ => by simp [shpD] at h
  | 0, .str _, _, h, _ => by simp [shpD] at h
  | 0, .tup _, _, h, _ => by simp [shpD] at h
  | 0, .lst _, _, h, _ => by simp [shpD] at h
  | 0, .scr _, _, h, _ => by simp [shpD] at h
  | 0, .dic _ _, _, h, _ => by simp [shpD] at h
  | 0, .ref _, _, h, _ => by simp [shpD] at h
  | 0, .exc _ _ _, _, h, _ => by simp [shpD] at h
  | 0, .int _, .non, _, h => by simp [shpD] at h
  | 0, .int _, .bl _, _, h => by simp [shpD] at h
  | 0, .int _, .str _, _, h => by simp [shpD] at h
  | 0, .int _, .tup _, _, h => by simp [shpD] at h
  | 0, .int _, .lst _, _, h => by simp [shpD] at h
  | 0, .int _, .scr _, _, h => by simp [shpD] at h
  | 0, .int _, .dic _ _, _, h => by simp [shpD] at h
  | 0, .int _, .ref _, _, h => by simp [shpD] at h
  | 0, .int _, .exc _ _ _, _, h => by simp [shpD] at h
  | n + 1, .non, _, h, _ => by simp [shpD] at h
  | n + 1, .bl _, _, h, _ => by simp [shpD] at h
  | n + 1, .str _, _, h, _ => by simp [shpD] at h
  | n + 1, .int _, _, h, _ => by simp [shpD] at h
  | n + 1, .lst _, _, h, _ => by simp [shpD] at h
  | n + 1, .scr _, _, h, _ => by simp [shpD] at h
  | n + 1, .dic _ _, _, h, _ => by simp [shpD] at h
  | n + 1, .ref _, _, h, _ => by simp [shpD] at h
  | n + 1, .exc _ _ _, _, h, _ => by simp [shpD] at h
  | n + 1, .tup _, .non, _, h => by simp [shpD] at h
  | n + 1, .tup _, .bl _, _, h => by simp [shpD] at h
  | n + 1, .tup _, .str _, _, h => by simp [shpD] at h
  | n + 1, .tup _, .int _, _, h => by simp [shpD] at h
  | n + 1, .tup _, .lst _, _, h => by simp [shpD] at h
  | n + 1, .tup _, .scr _, _, h => by simp [shpD] at h
  | n + 1, .tup _, .dic _ _, _, h => by simp [shpD] at h
  | n + 1, .tup _, .ref _, _, h => by simp [shpD] at h
  | n + 1, .tup _, .exc _ _ _, _, h => by simp [shpD] at h
theorem shps_facts : ∀ (n : Nat) (a b : List D), shpDs n a = true → shpDs n b = true → (alikeAll (toPs a) (toPs b) = true ∧ isDatas a = true ∧ deps a ≤ n) ∧ ∀ l m, tokss a ++ l = tokss b ++ m → a = b ∧ l = m
  | n, [], [], _, _ => ⟨⟨by simp [toPs, alikeAll], by simp [isDatas], by simp [deps]⟩, fun l m h => by simpa [tokss] using h⟩
  | n, [], y :: ys, _, _ => ⟨⟨by simp [toPs, alikeAll], by simp [isDatas], by simp [deps]⟩, fun l m h => by simp [tokss] at h⟩
  | n, x :: xs, [], h, _ => by
    obtain ⟨k1, k2⟩ : shpD n x = true ∧ shpDs n xs = true := by simpa [shpDs] using h
    obtain ⟨⟨a1, a2, a3⟩, b⟩ := shps_facts n xs [] k2 (by simp [shpDs])
    obtain ⟨⟨c1, c2, c3⟩, d⟩ := shp_facts n x x k1 k1
    exact ⟨⟨by simp [toPs, alikeAll], by simp [isDatas, a2, c2], by simp [deps]; omega⟩, fun l m h => by simp [tokss] at h⟩
  | n, x :: xs, y :: ys, h, g => by
    obtain ⟨k1, k2⟩ : shpD n x = true ∧ shpDs n xs = true := by simpa [shpDs] using h
    obtain ⟨q1, q2⟩ : shpD n y = true ∧ shpDs n ys = true := by simpa [shpDs] using g
    obtain ⟨⟨a1, a2, a3⟩, b⟩ := shps_facts n xs ys k2 q2
    obtain ⟨⟨c1, c2, c3⟩, d⟩ := shp_facts n x y k1 q1
    refine ⟨⟨by simp [toPs, alikeAll, c1, a1], by simp [isDatas, a2, c2], by simp [deps]; omega⟩, fun l m h => ?_⟩
    simp only [tokss, List.cons_append, List.append_assoc, List.cons.injEq, true_and] at h
    obtain ⟨e1, e2⟩ := d _ _ h
    obtain ⟨e3, e4⟩ := b _ _ e2
    exact ⟨by rw [e1, e3], e4⟩
end
end PM

namespace PM
open PySem PySem.Spec PyProof.Rows L2

theorem lexT_total : ∀ a b : List Int, HT.lexLt a b = false → HT.lexLt b a = false → a = b
  | [], [], _, _ => rfl
  | [], y :: ys, h, _ => by rw [HT.lexLt_nil_cons] at h; cases h
  | x :: xs, [], _, h => by rw [HT.lexLt_nil_cons] at h; cases h
  | x :: xs, y :: ys, h, g => by
    rw [HT.lexLt_cons] at h g
    by_cases e : x = y
    · rw [if_pos e] at h; rw [if_pos e.symm] at g
      rw [e, lexT_total xs ys h g]
    · rw [if_neg e] at h; rw [if_neg (Ne.symm e)] at g
      have := of_decide_eq_false h
      have := of_decide_eq_false g
      omega
mutual
theorem toks_key : ∀ (n : Nat) (a : D), shpD n a = true → PySem.W.keyToks a.toP = (toks a).map Sum.inl
  | 0, .int i, _ => by simp [D.toP, PySem.W.keyToks, toks]
  | n + 1, .tup xs, h => by
    have := tokss_key n xs (by simpa [shpD] using h)
    simpa [D.toP, PySem.W.keyToks, toks] using this
  | 0, .non, h => by simp [shpD] at h
  | 0, .bl _, h => by simp [shpD] at h
  | 0, .str _, h => by simp [shpD] at h
  | 0, .tup _, h => by simp [shpD] at h
  | 0, .lst _, h => by simp [shpD] at h
  | 0, .scr _, h => by simp [shpD] at h
  | 0, .dic _ _, h => by simp [shpD] at h
  | 0, .ref _, h => by simp [shpD] at h
  | 0, .exc _ _ _, h => by simp [shpD] at h
  | n + 1, .non, h => by simp [shpD] at h
  | n + 1, .bl _, h => by simp [shpD] at h
  | n + 1, .int _, h => by simp [shpD] at h
  | n + 1, .str _, h => by simp [shpD] at h
  | n + 1, .lst _, h => by simp [shpD] at h
  | n + 1, .scr _, h => by simp [shpD] at h
  | n + 1, .dic _ _, h => by simp [shpD] at h
  | n + 1, .ref _, h => by simp [shpD] at h
  | n + 1, .exc _ _ _, h => by simp [shpD] at h
theorem tokss_key : ∀ (n : Nat) (a : List D), shpDs n a = true → PySem.W.keyToksAll (toPs a) = (tokss a).map Sum.inl
  | n, [], _ => by simp [toPs, PySem.W.keyToksAll, tokss]
  | n, x :: xs, h => by
    obtain ⟨k1, k2⟩ : shpD n x = true ∧ shpDs n xs = true := by simpa [shpDs] using h
    have h1 := toks_key n x k1
    have h2 := tokss_key n xs k2
    simp [toPs, PySem.W.keyToksAll, tokss, h1, h2]
end
theorem lex_inl : ∀ a b : List Int, PyProof.Rows.lexLt itemOrd (a.map Sum.inl) (b.map Sum.inl) = HT.lexLt a b
  | [], [] => rfl
  | [], _ :: _ => rfl
  | _ :: _, [] => rfl
  | x :: xs, y :: ys => by
    rw [List.map_cons, List.map_cons, HT.lexLt_cons]
    by_cases e : x = y
    · subst e
      rw [lex_self, if_pos rfl, lex_inl xs ys]
    · rw [if_neg e, lex_diff (O := itemOrd) (by simpa using e)] <;> rfl
theorem shpDs_mem {n : Nat} : ∀ {xs : List D}, shpDs n xs = true → ∀ x ∈ xs, shpD n x = true
  | [], _, _, m => by cases m
  | x :: xs, h, y, m => by
    obtain ⟨k1, k2⟩ : shpD n x = true ∧ shpDs n xs = true := by simpa [shpDs] using h
    rcases List.mem_cons.mp m with rfl | m
    · exact k1
    · exact shpDs_mem k2 y m
theorem toPs_map : ∀ xs : List D, toPs xs = xs.map D.toP
  | [] => by simp [toPs]
  | x :: xs => by simp [toPs, toPs_map xs]
theorem alikeAll_self_mem : ∀ {xs : List PyData}, True → True := fun _ => trivial

theorem sortD_perm (xs : List D) : (sortD xs).Perm xs := by
  unfold sortD
  have := (msort_perm (le := leT) 20 (xs.map fun x => (toks x, x))).map (·.2)
  rwa [List.map_map, show ((fun p : List Int × D => p.2) ∘ fun x => (toks x, x)) = id from rfl, List.map_id] at this
theorem sortD_srt {xs : List D} (h : xs.length ≤ 2 ^ 20) : (sortD xs).Pairwise fun a b => HT.lexLt (toks b) (toks a) = false := by
  unfold sortD
  have h1 := msort_srt (le := leT) (fun a b h => by
    unfold leT at h ⊢
    have : HT.lexLt b.1 a.1 = true := by simpa using h
    rw [NtL.lex_asym _ _ this]; rfl) (fun a b c h g => by
    unfold leT at h g ⊢
    have h : HT.lexLt b.1 a.1 = false := by simpa using h
    have g : HT.lexLt c.1 b.1 = false := by simpa using g
    rw [NtL.lex_tr _ _ _ h g]; rfl) 20 (xs.map fun x => (toks x, x)) (by simpa using h)
  rw [List.pairwise_map]
  refine List.Pairwise.imp_of_mem (R := fun a b => leT a b = true) (fun {a b} ma mb h => ?_) h1
  have key : ∀ a ∈ msort leT 20 (xs.map fun x => (toks x, x)), a.1 = toks a.2 := fun a m => by
    have := (msort_perm (le := leT) 20 _).mem_iff.mp m
    obtain ⟨x, _, rfl⟩ := List.mem_map.mp this
    rfl
  rw [← key a ma, ← key b mb]
  simpa [leT] using h

theorem paired_perm {α β : Type} {F : α → β → Prop} {l l' : List β} (p : l.Perm l') : ∀ {a : List α}, Paired F a l' → ∃ a', a'.Perm a ∧ Paired F a' l := by
  induction p with
  | nil => intro a h; exact ⟨a, List.Perm.refl _, h⟩
  | cons x p ih =>
    intro a h
    cases h with
    | cons r t =>
      obtain ⟨a', p', h'⟩ := ih t
      exact ⟨_, p'.cons _, .cons r h'⟩
  | swap x y l =>
    intro a h
    cases h with
    | cons r t =>
      cases t with
      | cons r2 t2 => exact ⟨_, List.Perm.swap _ _ _, .cons r2 (.cons r t2)⟩
  | trans p q ih1 ih2 =>
    intro a h
    obtain ⟨a1, p1, h1⟩ := ih2 h
    obtain ⟨a2, p2, h2⟩ := ih1 h1
    exact ⟨a2, p2.trans p1, h2⟩
theorem Rps.paired {K : Frg} {ρ : List Addr} {G : Hp} : ∀ {ds : List D} {vs : List V}, Rps K ρ G ds vs → Paired (Rp K ρ G) ds vs
  | _, _, .nil => .nil
  | _, _, .cons a b => .cons a b.paired
theorem Rps.of_paired {K : Frg} {ρ : List Addr} {G : Hp} : ∀ {ds : List D} {vs : List V}, Paired (Rp K ρ G) ds vs → Rps K ρ G ds vs
  | _, _, .nil => .nil
  | _, _, .cons a b => .cons a (.of_paired b)

section
open SrtO PySem.SeqAt PySem.W PySem.Calls
variable {prog : Program} {w : World} {A : Around} {E : Value → Shared → Prop} {s : Shared}
/-- the kind of a list of tuples, the first one empty -/
theorem kind_tup0 {vs : List Value} {Q : SortKind → Shared → Prop} {M : Model} {v0 : Value} (h2 : 2 ≤ (v0 :: vs).length) (hT : ∀ v ∈ v0 :: vs, Looks M s.heap (typeOf v) (.type "tuple"))
    (fr : List (Option Value)) (hF : ∀ (Q : List (Option Value) → Shared → Prop), Q (none :: fr) s → wpAny M A ((v0 :: vs).mapM firstOfTuple') Q E s) (h : Q oneType' s) :
    wpAny M A (keyKind' (v0 :: vs).toArray) Q E s := by
  obtain ⟨v₂, rest, rfl⟩ : ∃ v₂ rest, vs = v₂ :: rest := by
    match vs, h2 with
    | [], h2 => simp at h2
    | v₂ :: rest, _ => exact ⟨v₂, rest, rfl⟩
  rw [keyKind'_eq, List.mapM_toArray, map_eq_pure_bind]
  refine wpAny_bind (wpAny_bind (hF _ (wpAny_pure ?_)))
  rw [if_neg (by simp), if_neg (by simp)]
  rw [oneTypeOnly'_eq, List.mapM_toArray, map_eq_pure_bind]
  refine wpAny_bind (wpAny_bind (wpAny_bind (kas_mapM (r := Value.type "tuple") _ (fun v hv Q' hq => (hT v hv).here hq) (wpAny_pure ?_))))
  have hall : ((List.map (fun _ => Value.type "tuple") (v0 :: v₂ :: rest)).toArray.all fun x => x == Value.type "tuple") = true := by
    simp only [List.all_toArray, List.all_map, List.all_eq_true]
    intro _ _
    show (Value.type "tuple" == Value.type "tuple") = true
    decide
  have h0 : (List.map (fun _ => Value.type "tuple") (v0 :: v₂ :: rest)).toArray[0]? = some (Value.type "tuple") := by simp
  rw [h0]
  simp only [hall, if_true]
  exact wpAny_pure (wpAny_pure h)
/-- two tuples of that kind -/
theorem oneLt_tup {xs ys : List PyData} {a b : Value} {as bs : List Addr} {Q : Bool → Shared → Prop} (ra : Reads s.heap a (.tuple xs) as) (rb : Reads s.heap b (.tuple ys) bs) (hal : alikeAll xs ys = true)
    (hu : A.units + min (PyData.tuple xs).depth (PyData.tuple ys).depth < cLine) (hq : Q (dataLt (.tuple xs) (.tuple ys)) s) : wpAny (model prog w) A (keyLt' oneType' a b) Q E s := by
  rw [keyLt'_oneType]
  cases ra with
  | @tuple l o vs n _ as₁ h1 h2 h3 h4 =>
    cases rb with
    | @tuple l' o' vs' n' _ bs₁ k1 k2 k3 k4 =>
      have n1 : vs.size = xs.length := by simpa using ReadsAll.length _ _ _ h4
      have n2 : vs'.size = ys.length := by simpa using ReadsAll.length _ _ _ k4
      rw [dataLt_tuple, ← firstLt_toks xs ys hal, ← n1, ← n2] at hq
      rw [oneLt'_eq]
      simp only [if_true]
      refine wpAny_bind (wpAny_cRoomFor (room_here hu) ?_)
      obtain ⟨cls, dd, data, sl⟩ := o
      obtain ⟨cls2, dd2, data2, sl2⟩ := o'
      simp only at h2 h3 k2 k3
      subst h2 h3 k2 k3
      refine wpAny_bind (wpAny_callSpecialIfBound?_slot (T := "tuple") ⟨_, h1, rfl⟩ F.slot_tuple_lt (call_meets F.slot_tuple_lt ⟨_, h1, rfl⟩ F.entry_tuple_lt (F.args_tuple_lt_2 _ _)
        (tuple_ltAt l l' vs vs' n n' dd dd2 sl sl2 (pairEq xs ys) (fun j => dataLt (xs.getD j .none) (ys.getD j .none))) ⟨h1, k1, fun j j1 j2 => ?_, fun j j1 j2 hj => ?_, ?_⟩))
      · have := eqAt_alikeAll xs ys A.in1 s vs.toList vs'.toList _ _ h4 k4 hal (room_in hu) j (by simpa using j1) (by simpa using j2)
        first | simpa using this | exact EqAt.of_in1 (by simpa using this)
      · have := rcLt_alikeAll xs ys A.in1 s vs.toList vs'.toList _ _ h4 k4 hal (room_in hu) j (by simpa using j1) (by simpa using j2) hj
        simpa using this
      · exact wpAny_truthy_bool hq
end
end PM

namespace PM
open PySem PySem.Spec PyProof.Rows L2

section
open SrtO PySem.SeqAt PySem.W PySem.Calls
variable {prog : Program} {w : World} {A : Around} {E : Value → Shared → Prop} {s : Shared}
/-- v is a tuple at h -/
def TupAt (h : Heap) (v : Value) (xs : Array Value) : Prop := ∃ a o n, v = .ref a ∧ h.get? a = some o ∧ o.cls = .type "tuple" ∧ o.data = .seq xs n
theorem firsts_tup {M : Model} : ∀ (l : List Value) (xss : List (Array Value)) {Q : List (Option Value) → Shared → Prop}, Paired (TupAt s.heap) l xss → Q (xss.map fun xs => xs[0]?) s → wpAny M A (l.mapM firstOfTuple') Q E s
  | _, _, Q, .nil, h => by rw [List.mapM_nil]; exact wpAny_pure h
  | v :: l, xs :: xss, Q, .cons r t, h => by
    obtain ⟨a, o, n, e, h1, h2, h3⟩ := r
    subst e
    rw [List.mapM_cons]
    refine wpAny_bind ?_
    rw [kas_first_eq]
    refine wpAny_bind (Looks.here (show Looks M s.heap (typeOf (.ref a)) o.cls from (Looks.ld h1).andThen .now) ?_)
    rw [h2, if_neg (by first | decide | simp)]
    refine wpAny_bind (listItems_at h1 h3 (wpAny_pure ?_))
    exact wpAny_bind (firsts_tup l xss (Q := fun bs s' => wpAny M A (pure (xs[0]? :: bs)) Q E s') t (wpAny_pure h))
/-- what reads as tuples -/
theorem tups_of {n : Nat} : ∀ {ds : List D} {vs : List Value} {as : List Addr}, shpDs (n + 1) ds = true → ReadsAll s.heap vs (toPs ds) as → ∃ xss, Paired (TupAt s.heap) vs xss ∧ ∀ r, ds = .tup [] :: r → xss.head? = some #[]
  | [], _, _, _, r => by
    simp only [toPs] at r
    cases r
    exact ⟨[], .nil, fun r h => by cases h⟩
  | .tup xs :: ds, _, _, h, r => by
    simp only [toPs, D.toP] at r
    cases r with
    | cons r1 r2 =>
      have hs : shpDs (n + 1) ds = true := by
        simp only [shpDs, Bool.and_eq_true] at h
        exact h.2
      obtain ⟨xss, h1, _⟩ := tups_of hs r2
      cases r1 with
      | tuple k1 k2 k3 k4 =>
        rename_i o vs n
        refine ⟨vs :: xss, .cons ⟨_, _, _, rfl, k1, k2, k3⟩ h1, fun r e => ?_⟩
        cases e
        have : vs.toList = [] := by
          simp only [toPs] at k4
          generalize vs.toList = l at k4
          cases k4
          rfl
        simp only [List.head?_cons]
        congr 1
        exact Array.toList_inj.mp (by simpa using this)
  | .non :: _, _, _, h, _ => by simp [shpDs, shpD] at h
  | .bl _ :: _, _, _, h, _ => by simp [shpDs, shpD] at h
  | .int _ :: _, _, _, h, _ => by simp [shpDs, shpD] at h
  | .str _ :: _, _, _, h, _ => by simp [shpDs, shpD] at h
  | .lst _ :: _, _, _, h, _ => by simp [shpDs, shpD] at h
  | .scr _ :: _, _, _, h, _ => by simp [shpDs, shpD] at h
  | .dic _ _ :: _, _, _, h, _ => by simp [shpDs, shpD] at h
  | .ref _ :: _, _, _, h, _ => by simp [shpDs, shpD] at h
  | .exc _ _ _ :: _, _, _, h, _ => by simp [shpDs, shpD] at h
  | .exb _ :: _, _, _, h, _ => by simp [shpDs, shpD] at h
  | .dcs _ _ :: _, _, _, h, _ => by simp [shpDs, shpD] at h
def lf (l : List (Int ⊕ List Nat)) : List Int := l.filterMap fun x => match x with | .inl i => some i | .inr _ => none
theorem lf_inl (l : List Int) : lf (l.map Sum.inl) = l := by
  unfold lf
  rw [List.filterMap_map]
  induction l with
  | nil => rfl
  | cons x l ih => simp [List.filterMap_cons, Function.comp] at ih ⊢; exact ih
noncomputable def kyV (h : Heap) (v : Value) : List Int := lf (keyToks (SeqAt.readOf h v))
theorem readsAll_mem {h : Heap} : ∀ {vs : List Value} {ps : List PyData} {as : List Addr}, ReadsAll h vs ps as → ∀ v ∈ vs, ∃ p ∈ ps, ∃ bs, Reads h v p bs
  | _, _, _, .nil, _, m => by cases m
  | _, _, _, .cons a b, v, m => by
    rcases List.mem_cons.mp m with rfl | m
    · exact ⟨_, List.mem_cons_self, _, a⟩
    · obtain ⟨p, h1, h2⟩ := readsAll_mem b v m
      exact ⟨p, List.mem_cons_of_mem _ h1, h2⟩
theorem readsAll_keeps {h h' : Heap} (k : ∀ b o, h.get? b = some o → h'.get? b = some o) : ∀ {vs : List Value} {ps : List PyData} {as : List Addr}, ReadsAll h vs ps as → ReadsAll h' vs ps as
  | _, _, _, .nil => .nil
  | _, _, _, .cons a b => .cons (PyProof.Rows.Reads.keeps k a) (readsAll_keeps k b)
theorem sorted_tups0 {n : Nat} {l : Addr} {vs : List Value} {ds : List D} {as : List Addr} {Q : Value → Shared → Prop} (hl : s.heap.IsList l vs.toArray) (hr : ReadsAll s.heap vs (toPs (.tup [] :: ds)) as) (hs : shpDs (n + 1) (.tup [] :: ds) = true)
    (hz : vs.length ≤ sizeLine) (hu : A.units + (n + 10) < cLine)
    (h : ∀ out : List Value, Srtd (fun u v => HT.lexLt (kyV s.heap u) (kyV s.heap v)) out → out.Perm vs → Q (.ref (s.heap.objs.size + 1)) { s with heap := sortedAll s.heap vs out.toArray }) :
    wpAny (model prog w) A (call (.builtin "sorted") [.ref l]) Q E s := by
  refine sorted_ord (NtL.swo_lexL _) hl hz (fun h2 h₁ a ha kk => ?_) fun out hs hb => h out hs hb.perm
  intro h' keep
  have k' : ∀ b o, s.heap.get? b = some o → h'.get? b = some o := fun b o e => keep b o (kk b o e).1 (kk b o e).2
  have hr' := readsAll_keeps k' hr
  refine ⟨oneType', fun Q E hq => ?_, fun p q hp hq => ?_⟩
  · obtain ⟨xss, t1, t2⟩ := tups_of (s := { s with heap := h' }) hs hr'
    have t2 := t2 ds rfl
    match xss, t2, vs, t1, h2 with
    | x0 :: xss, t2, v0 :: vs, t1, h2 =>
      have e0 : x0 = #[] := by simpa using t2
      subst e0
      refine kind_tup0 (s := { s with heap := h' }) h2 (fun v hv => ?_) (xss.map fun xs => xs[0]?) (fun Q hq => ?_) hq
      · have : ∀ {l : List Value} {xss : List (Array Value)}, Paired (TupAt h') l xss → ∀ v ∈ l, Looks (model prog w) h' (typeOf v) (.type "tuple") := by
          intro l xss t
          induction t with
          | nil => intro v m; cases m
          | cons r t ih =>
            intro v m
            rcases List.mem_cons.mp m with rfl | m
            · obtain ⟨a, o, n, e, h1, h2, h3⟩ := r
              subst e
              rw [← h2]
              exact (Looks.ld h1).andThen .now
            · exact ih v m
        exact this t1 v hv
      · exact firsts_tup (s := { s with heap := h' }) _ _ t1 (by simpa using hq)
  · have rd : ∀ v ∈ vs, ∃ xs bs, shpD (n + 1) (.tup xs) = true ∧ Reads s.heap v (.tuple (toPs xs)) bs := fun v hv => by
      obtain ⟨p, h1, bs, h3⟩ := readsAll_mem hr v hv
      rw [toPs_map] at h1
      obtain ⟨d, hd, rfl⟩ := List.mem_map.mp h1
      have sd := shpDs_mem hs d hd
      cases d with
      | tup xs => exact ⟨xs, bs, sd, by simpa [D.toP] using h3⟩
      | _ => simp [shpD] at sd
    obtain ⟨xs, bs, s1, r1⟩ := rd _ hp
    obtain ⟨ys, cs, s2, r2⟩ := rd _ hq
    obtain ⟨⟨a1, a2, a3⟩, _⟩ := shp_facts (n + 1) _ _ s1 s2
    obtain ⟨⟨_, b2, b3⟩, _⟩ := shp_facts (n + 1) _ _ s2 s1
    have c1 := toP_lay _ a2
    have c2 := toP_lay _ b2
    simp only [D.toP] at a1 c1 c2
    have e1 : kyV s.heap p.1 = toks (.tup xs) := by
      unfold kyV
      rw [SeqAt.readOf_eq c1.1 r1]
      have := toks_key (n + 1) (.tup xs) s1
      simp only [D.toP] at this
      rw [this, lf_inl]
    have e2 : kyV s.heap q.1 = toks (.tup ys) := by
      unfold kyV
      rw [SeqAt.readOf_eq c2.1 r2]
      have := toks_key (n + 1) (.tup ys) s2
      simp only [D.toP] at this
      rw [this, lf_inl]
    refine oneLt_tup (s := { s with heap := h' }) (Q := fun r s' => s' = { s with heap := h' } ∧ r = lt2 (fun u v => HT.lexLt (kyV s.heap u) (kyV s.heap v)) p q) (PyProof.Rows.Reads.keeps k' r1) (PyProof.Rows.Reads.keeps k' r2) (by simpa [alike] using a1) ?_ ⟨rfl, ?_⟩
    · show A.in1.in1.units + _ < _
      have : A.in1.in1.units = A.units + 1 + 1 := rfl
      rw [this, c1.2, c2.2]
      omega
    · show dataLt _ _ = HT.lexLt (kyV s.heap p.1) (kyV s.heap q.1)
      rw [e1, e2]
      unfold dataLt
      have k1 := toks_key (n + 1) (.tup xs) s1
      have k2 := toks_key (n + 1) (.tup ys) s2
      simp only [D.toP] at k1 k2
      rw [k1, k2, lex_inl]
end
section
variable {X : Cx}
theorem b_sorted (hu : X.A.units + 65 < cLine) : CallR X (.builtin "sorted") (rBi X.K sortB) := by
  intro pins s σ H xs us Q I rv ⟨ρ, G, ds, d, hs, r, h, q⟩
  unfold sortB at h
  split at h
  · rename_i ds
    obtain ⟨v, rfl, a⟩ := r.one
    rw [Option.ite_none_right_eq_some] at h
    obtain ⟨hl, h⟩ := h
    cases h
    simp only [Bool.and_eq_true, Bool.or_eq_true, decide_eq_true_eq] at hl
    obtain ⟨hsh, hlen⟩ := hl
    have hsh : ∃ n, n ≤ 2 ∧ shpDs (n + 1) (.tup [] :: ds) = true := by
      rcases hsh with h | h
      · exact ⟨1, by omega, by simp [shpDs, shpD, h]⟩
      · exact ⟨2, by omega, by simp [shpDs, shpD, h]⟩
    obtain ⟨n, hn, hsh⟩ := hsh
    cases a with
    | @lst a _ vs sq rs =>
      obtain ⟨⟨_, hda, _⟩, _⟩ := shps_facts _ _ _ hsh hsh
      obtain ⟨its, rvs, hl, _⟩ := I.list (.inl (.inl (hs _ _ sq)) : SqL X.K H a vs)
      obtain ⟨as, ra⟩ := Dp.readsAll I _ _ _ (Rps.dp hs rs hda) rvs
      rw [Vals.ref1 rv]
      have hz : its.length ≤ sizeLine := by
        rw [← rvs.length, ← rs.length]
        exact Nat.le_trans (by simpa using hlen) lim_line
      refine sorted_tups0 hl.isList ra hsh hz (by omega) fun out hsrt hperm => ?_
      obtain ⟨vs', pv, rvs'⟩ := paired_perm hperm rvs
      have prs : Paired (fun v d => Rp X.K ρ G d v) vs (.tup [] :: ds) := by
        have : ∀ {ds : List D} {vs : List V}, Rps X.K ρ G ds vs → Paired (fun v d => Rp X.K ρ G d v) vs ds := by
          intro ds vs r
          induction r using Rps.rec (motive_1 := fun _ _ _ => True) with
          | nil => exact .nil
          | cons a b _ ih => exact .cons a ih
          | _ => trivial
        exact this rs
      have prs' := paired_perm pv rs.paired
      obtain ⟨ds', pd, rs'⟩ := prs'
      have rs' := Rps.of_paired rs'
      have hsh' : shpDs (n + 1) ds' = true := by
        have : ∀ {l : List D}, (∀ x ∈ l, shpD (n + 1) x = true) → shpDs (n + 1) l = true := by
          intro l
          induction l with
          | nil => intro _; simp [shpDs]
          | cons x l ih => intro h; simp [shpDs, h x List.mem_cons_self, ih fun y m => h y (List.mem_cons_of_mem _ m)]
        exact this fun x m => shpDs_mem hsh x (pd.mem_iff.mp m)
      obtain ⟨⟨_, hda', _⟩, _⟩ := shps_facts _ _ _ hsh' hsh'
      have hda'' := (toPs_lay ds' hda').1
      obtain ⟨as', ra'⟩ := Dp.readsAll I _ _ _ (Rps.dp hs rs' hda') rvs'
      have hmap := SeqAt.readsAll_map _ _ _ hda'' ra'
      have key : out.map (kyV s.heap) = ds'.map toks := by
        have e1 : out.map (kyV s.heap) = (out.map (SeqAt.readOf s.heap)).map fun p => lf (PySem.W.keyToks p) := by rw [List.map_map]; rfl
        rw [e1, hmap, toPs_map, List.map_map]
        refine List.map_congr_left fun d m => ?_
        show lf (PySem.W.keyToks d.toP) = toks d
        rw [toks_key _ _ (shpDs_mem hsh' d m), lf_inl]
      have srt : ds'.Pairwise fun a b => HT.lexLt (toks b) (toks a) = false := by
        have h1 : (out.map (kyV s.heap)).Pairwise fun a b => HT.lexLt b a = false := List.pairwise_map.mpr hsrt
        rw [key] at h1
        exact List.pairwise_map.mp h1
      have e : ds' = sortD (.tup [] :: ds) := by
        refine perm_srt (pd.trans (sortD_perm _).symm) srt (sortD_srt ?_) fun a ha b hb h1 h2 => ?_
        · simp only [List.length_cons]
          exact Nat.le_trans hlen (by decide)
        · have := lexT_total _ _ h2 h1
          exact ((shp_facts (n + 1) a b (shpDs_mem hsh' a ha) (shpDs_mem hsh' b hb)).2 [] [] (by rw [this])).1
      rw [← e] at q
      have hn0 : H (s.heap.objs.size + 1) = none := I.hok.fresh (Nat.le_succ _)
      obtain ⟨ep, he'⟩ := PyProof.Rows.sortedAll_at s.heap its out.toArray
      refine ⟨.ref _, upd H (s.heap.objs.size + 1) (.lst vs'), I.laid (t' := s.toks) (fun _ _ => PyProof.Rows.sortedAll_old) (Nat.le_succ _) ⟨?_, out, ep, rvs', he'⟩, rfl, q.lst hs rs' _ hn0⟩
      rw [pv.length_eq, ← rs.length]
      exact Nat.le_trans (by simpa using hlen) lim_line
  · cases h
end
end PM

namespace PM
open PySem PySem.Spec PyProof.Rows L2

/-! ### what the methods give -/
def fstIx (d : D) : List D → Nat → Option Nat
  | [], _ => none
  | x :: r, i => if eqD x d then some i else fstIx d r (i + 1)
def indexB : D → List D → Option D
  | .lst xs, [d] => if d.fit && (D.lst xs).fit then (fstIx d xs 0).map fun (j : Nat) => .int j else none
  | _, _ => none
def joinB : D → List D → Option D
  | .str a, [.lst xs] => (strsD xs).bind fun ys => if decide ((ys.map (·.length)).sum + ys.length * a.length ≤ lim) then some (.str (Txt.join a ys)) else none
  | _, _ => none
def splitB : D → List D → Option D
  | .str a, [.str b] => if !(b.length == 0) && decide (a.length ≤ lim) then some (.lst ((Txt.split a b).map .str)) else none
  | _, _ => none
/-- a method by values -/
def rMt (K : Frg) (g : D → List D → Option D) : V → List V → Hp → VK → Prop := fun x xs H Q => ∃ ρ G a ds d, Same G H ∧ Rp K ρ G a x ∧ Rps K ρ G ds xs ∧ g a ds = some d ∧ Got K ρ G H Q d
theorem fstIx_spec (d : D) : ∀ (xs : List D) (i j : Nat), fstIx d xs i = some j → ∃ k z, j = i + k ∧ xs[k]? = some z ∧ eqD z d = true ∧ ∀ m z', m < k → xs[m]? = some z' → eqD z' d = false
  | [], i, j, h => by cases h
  | x :: r, i, j, h => by
    unfold fstIx at h
    split at h
    · rename_i e
      cases h
      exact ⟨0, x, rfl, rfl, e, fun m z' hm => absurd hm (Nat.not_lt_zero _)⟩
    · rename_i e
      obtain ⟨k, z, h1, h2, h3, h4⟩ := fstIx_spec d r (i + 1) j h
      refine ⟨k + 1, z, by omega, by simpa using h2, h3, fun m z' hm hz => ?_⟩
      match m, hm, hz with
      | 0, _, hz => cases hz; simpa using e
      | m + 1, hm, hz => exact h4 m z' (by omega) (by simpa using hz)
theorem Rps.ofStrs {K : Frg} {ρ : List Addr} {G : Hp} : ∀ is : List Str, Rps K ρ G (is.map .str) (is.map .str)
  | [] => .nil
  | i :: r => .cons (.str i) (Rps.ofStrs r)
section
variable {nm : Nm} {X : Cx}
theorem MtR.imp {id : String} {r r' : V → List V → Hp → VK → Prop} (h : MtR X id r) (k : ∀ x xs H Q, r' x xs H Q → r x xs H Q) : MtR X id r' := fun pins s σ H x xs v us Q I rx rv q => h pins s σ H x xs v us Q I rx rv (k x xs H Q q)
theorem m_index (hu : X.A.units + 65 < cLine) : MtR X "list.index" (rMt X.K indexB) := MtR.imp (mt_indexD hu) fun x xs H Q ⟨ρ, G, a, ds, d, hs, ra, r, h, q⟩ => by
  unfold indexB at h
  split at h
  · rename_i xs d
    obtain ⟨v, rfl, rd⟩ := r.one
    rw [Option.ite_none_right_eq_some] at h
    obtain ⟨hf, h⟩ := h
    simp only [Bool.and_eq_true] at hf
    simp only [Option.map_eq_some_iff] at h
    obtain ⟨j, hj, rfl⟩ := h
    obtain ⟨k, z, e, h2, h3, h4⟩ := fstIx_spec _ _ _ _ hj
    have e : j = k := by omega
    subst e
    cases ra with
    | lst sq rs =>
      obtain ⟨f1, f2⟩ := fit_shaped hf.1
      obtain ⟨g1, g2⟩ := fit_shaped hf.2
      have dl := Rp.dp hs (.lst sq rs : Rp X.K ρ G (.lst xs) _) g1
      have dd := Rp.dp hs rd f1
      simp only [D.toP] at dl g2
      refine ⟨_, v, _, _, j, z.toP, rfl, rfl, dl, dd, g2, f2, by rw [toPs_map, List.getElem?_map, h2]; rfl, h3, fun m z' hm hz => ?_, q.sc (.int _)⟩
      rw [toPs_map, List.getElem?_map] at hz
      obtain ⟨y, hy, rfl⟩ := Option.map_eq_some_iff.mp hz
      exact h4 m y hm hy
  · cases h
theorem m_join : MtR X "str.join" (rMt X.K joinB) := MtR.imp mt_join fun x xs H Q ⟨ρ, G, a, ds, d, hs, ra, r, h, q⟩ => by
  unfold joinB at h
  split at h
  · obtain ⟨v, rfl, rd⟩ := r.one
    simp only [Option.bind_eq_some_iff, Option.ite_none_right_eq_some] at h
    obtain ⟨ys, hy, hl, h⟩ := h
    cases h
    cases ra
    cases rd with
    | lst sq rs =>
      have := rs.strs hy
      subst this
      exact ⟨_, _, ys, rfl, rfl, .inl (.inl (.inl (hs _ _ sq))), Nat.le_trans (of_decide_eq_true hl) (by decide), q.sc (.str _)⟩
  · cases h
theorem m_split : MtR X "str.split" (rMt X.K splitB) := MtR.imp mt_split fun x xs H Q ⟨ρ, G, a, ds, d, hs, ra, r, h, q⟩ => by
  unfold splitB at h
  split at h
  · obtain ⟨v, rfl, rd⟩ := r.one
    rw [Option.ite_none_right_eq_some] at h
    obtain ⟨hl, h⟩ := h
    cases h
    simp only [Bool.and_eq_true, decide_eq_true_eq, Bool.not_eq_true'] at hl
    cases ra; cases rd
    refine ⟨_, _, rfl, rfl, hl.1, Nat.le_trans (Nat.add_le_add_right hl.2 2) (by decide), q.lst hs (Rps.ofStrs _)⟩
  · cases h

variable {W : WX} {o e : Expr} {es : List Expr} {name : Str} {apos cpos : Pos} {T id : String} {g : D → List D → Option D} {fo : Ev → List MO → Out D} {ga : Ev → List MO → Out (List D)}
/-- a value's type by its name -/
def tyD (T : String) : D → Prop
  | .str _ => T = "str"
  | .lst _ => T = "list"
  | _ => False
theorem tyD_V {T : String} {d : D} {v : V} {K : Frg} {ρ : List Addr} {G H : Hp} (hs : Same G H) (h : tyD T d) (r : Rp K ρ G d v) : tyV K T v H := by
  cases r with
  | str x => exact h
  | lst sq rs => exact .inl ⟨h, _, .inl (.inl (hs _ _ sq))⟩
  | _ => exact h.elim
theorem sE_mt {f : Mt} (pa : PlainAttrs T) (slot : Slot T name id) (hty : typeOf (.builtin id) = pure (.type "method_descriptor")) (hm : MtR X id (rMt X.K g)) (hg : ∀ d, rcvB f d = true → tyD T d) (ho : PE X o (tE nm X.K W fo)) (ha : PA X (e :: es) (tA nm X.K W ga))
    (hbase : attributeBase o name X.env (eval o X.env) = eval o X.env)
    (hfew : ((backTo cpos (starEach (e :: es) X.env)).all (fun x => !x.1) && (backToKw cpos (keywordEach [] X.env)).all (fun x => x.1.isSome)
      && decide ((e :: es).length + ([] : List Keyword).length + (if ([] : List Keyword).isEmpty then 0 else 1) < 30)) = true)
    (hline : (apos.endLine == cpos.line) = true) (hs : starEach (e :: es) X.env = (false, eval e X.env) :: starEach es X.env) (hplain : (backTo cpos (starEach es X.env)).any (·.1) = false) :
    PE X (.Call (.Attribute o name apos) (e :: es) [] cpos) (tE nm X.K W fun e M => (fo e M).bind fun x e M => if rcvB f x then (ga e M).bind fun ds e M => lift (g x ds) e M else .bad) := by
  refine (pe_bm pa slot hty (r := fun x xs H Q => rMt X.K g x xs H Q) hm ho ha hbase hfew hline hs hplain).imp fun σ H Q ⟨fr, ρ, G, e, M, r, h⟩ => ?_
  refine tE.bind gdE_mono r h fun ρ1 G1 e1 M1 d1 v1 H1 g1 p1 s1 r1 h1 => ?_
  split at h1
  · rename_i hr
    refine ⟨tyD_V s1.wf.sub (hg _ hr) r1, ?_⟩
    refine tA.bind gdE_mono s1 h1 fun ρ2 G2 e2 M2 ds vs H2 g2 p2 s2 r2 h2 => ?_
    cases q : g d1 ds with
    | none => rw [q] at h2; exact h2.elim
    | some d =>
      rw [q] at h2
      exact ⟨ρ2, G2, d1, ds, d, s2.wf.sub, r1.mono g2 p2, r2, q, fun v H' G' n rv => h2 v H' G' ρ2 (n.both s2.wf.sub).1 (Pre.refl _) (s2.new n) rv⟩
  · exact h1.elim
end
end PM

namespace PM
open PySem PySem.Spec PyProof.Rows L2

/-! ### comprehensions of two for -/
def cmpL2 (f : D → List D → List MO → Out (List D)) : List D → List D → List MO → Out (List D)
  | [], acc, M => .ok acc [] M
  | x :: r, acc, M => (f x acc M).bind fun acc' _ M => cmpL2 f r acc' M
def comp2F (vs : List Nat) (t : Tg) (fi : Ev → List MO → Out (List D)) (vs1 : List Nat) (t1 : Tg) (c : Ev → List MO → Out Bool) (f : Ev → List MO → Out D) (e : Ev) (x : D) (acc : List D) (M : List MO) : Out (List D) := match setT t x (blkE vs e) with
  | none => .bad
  | some e1 => (noErr (fi e1 M)).bind fun ys e2 M => if acc.length + ys.length ≤ lim then cmpL (compF vs1 t1 c f e2) ys acc M else .bad
section
variable {nm : Nm} {K : Frg} {ρ ρ' : List Addr} {G G' H H' : Hp} {M M' : List MO} {fr : Fr} {e e' : Ev} {σ σ' : L2.St}
theorem SR.fresh (r : SR nm K fr ρ G e M σ H) (vs : List Nat) (g : Same G G') (p : Pre ρ ρ') (w : Wf nm K ρ' G' M' H') : SR nm K ⟨H', G', ρ'⟩ ρ' G' (blkE vs e) M' (wipe σ vs) H' where
  wf := w
  kp := Kp.refl
  vals := fun i d h => by
    obtain ⟨h1, h2⟩ := blk_val.1 d h
    obtain ⟨v, k1, k2⟩ := r.vals i d h2
    exact ⟨v, by rw [wipe_out h1]; exact k1, k2.mono g p⟩
  owns := fun i xs h => absurd h (blk_val.2 xs)
  apart := fun i j xs ys a h => absurd h (blk_val.2 xs)
  len := by rw [blk_len, wipe_length]; exact r.len
end
theorem cmpL_cons {f : D → List MO → Out (Option D)} {x : D} {r acc accF : List D} {M MF : List MO} {eF : Ev} (h : cmpL f (x :: r) acc M = .ok accF eF MF) : ∃ o e1 M1, f x M = .ok o e1 M1 ∧ cmpL f r (match o with | some y => acc ++ [y] | none => acc) M1 = .ok accF eF MF := by
  unfold cmpL at h
  cases q : f x M with
  | ok o e1 M1 => rw [q] at h; exact ⟨o, e1, M1, rfl, h⟩
  | err => rw [q] at h; cases h
  | bad => rw [q] at h; cases h
theorem noErr_bind {α β : Type} {o : Out α} {k : α → Ev → List MO → Out β} {b : β} {eF : Ev} {MF : List MO} (h : (noErr o).bind k = .ok b eF MF) : ∃ a e M, o = .ok a e M ∧ k a e M = .ok b eF MF := by
  cases o with
  | ok a e M => exact ⟨a, e, M, rfl, h⟩
  | err => cases h
  | bad => cases h
section
variable {X : Cx} {nm : Nm} {W : WX} {pos : Pos}
theorem inner_step {J : It} {fr : Fr} {ρ : List Addr} {G H0 : Hp} {e eF : Ev} {M MF : List MO} {σ : L2.St} {t : Tg} {g : TG} {c : Ev → List MO → Out Bool} {f : Ev → List MO → Out D} {ys acc accF : List D} {vacc : List V} {vs : List Nat} {Dp : Addr} (tg : TgOk X t g)
    (hv : t.ns ⊆ vs) (s : SR nm X.K fr ρ G e M σ H0) (w : WalkD J X.K ρ G ys) (hl : acc.length + ys.length ≤ lim) (hD : H0 Dp = some (.lst vacc)) (gD : G Dp = none) (nD : Dp ∉ ρ) (ra : Rps X.K ρ G acc vacc)
    (hr : cmpL (compF vs t c f e) ys acc M = .ok accF eF MF) (B : List Addr → Hp → Hp → Prop) (b0 : B ρ G H0) (b1 : ∀ ρ1 G1 H ρ2 G2 H', Same G G1 → B ρ1 G1 H → Kp ρ1 G1 H ρ2 G2 H' → B ρ2 G2 H') (b2 : ∀ ρ1 G1 H xs, B ρ1 G1 H → B ρ1 G1 (upd H Dp (.lst xs))) (Nx : Hp → Prop)
    (fin : ∀ ρ1 G1 vacc1 H, B ρ1 G1 H → Same G G1 → Pre ρ ρ1 → Wf nm X.K ρ1 G1 MF H → H Dp = some (.lst vacc1) → G1 Dp = none → Dp ∉ ρ1 → Rps X.K ρ1 G1 accF vacc1 → Nx H) :
    ∃ W1 : Nat → Nat → Hp → Prop, (∃ m, W1 0 m H0) ∧ ∀ j k H, W1 j k H → (J.stop j H ∧ Nx H) ∨ (J.go j H ∧ ∃ Nx1 : Hp → Prop, (∀ H', Nx1 H' → ∃ k', k' < k ∧ W1 (j + 1) k' H') ∧
      ∀ x H', J.yld j H x H' → g x (wipe σ vs) H' fun σ3 H5 => wipe σ3 vs = wipe σ vs ∧ (tT nm X.K WF0 c) σ3 H5 fun b H6 => if b = true then (tE nm X.K WF0 f) σ3 H6 fun y H7 => ∃ acc, H7 Dp = some (.lst acc) ∧ acc.length < sizeLine ∧ Nx1 (upd H7 Dp (.lst (acc ++ [y]))) else Nx1 H6) := by
  let Iv : Nat → Hp → Prop := fun j H => ∃ ρ1 G1 M1 acc1 vacc1, B ρ1 G1 H ∧ Same G G1 ∧ Pre ρ ρ1 ∧ Wf nm X.K ρ1 G1 M1 H ∧ H Dp = some (.lst vacc1) ∧ G1 Dp = none ∧ Dp ∉ ρ1 ∧ Rps X.K ρ1 G1 acc1 vacc1 ∧ acc1.length ≤ acc.length + j ∧
    cmpL (compF vs t c f e) (ys.drop j) acc1 M1 = .ok accF eF MF
  refine ⟨fun j k H => k = ys.length - j ∧ j ≤ ys.length ∧ Iv j H, ⟨_, rfl, Nat.zero_le _, ρ, G, M, acc, vacc, b0, Same.refl _, Pre.refl _, s.wf, hD, gD, nD, ra, Nat.le_refl _, by simpa using hr⟩, ?_⟩
  rintro j k H ⟨rfl, hj, ρ1, G1, M1, acc1, vacc1, bb, g1, p1, wf, hDp, gD1, nD1, racc, hle, hq⟩
  have sH : Same G H := g1.trans wf.sub
  by_cases hlt : j < ys.length
  · refine .inr ⟨w.go j H hlt sH, Iv (j + 1), fun H' q => ⟨ys.length - (j + 1), by omega, rfl, hlt, q⟩, fun x H' y => ?_⟩
    obtain ⟨G2, nw, rx⟩ := w.yld j H x H' ys[j] (by simp [hlt]) sH y ρ1 G1 g1 wf.sub p1
    have kp2 : Kp ρ1 G1 H ρ1 G2 H' := Kp.new nw wf.sub
    have wf2 := wf.new nw
    have g12 := (nw.both wf.sub).1
    have sb := s.fresh vs (g1.trans g12) p1 wf2
    rw [List.drop_eq_getElem_cons hlt] at hq
    obtain ⟨o, e9, M9, hF, hq⟩ := cmpL_cons hq
    have hD2 : H' Dp = some (.lst vacc1) := kp2.keep _ _ hDp (fun _ z => by cases z) nD1
    have gD2 : G2 Dp = none := (kp2.fresh Dp (NT.lst hDp)).trans gD1
    have on : ∀ {fr2 : Fr} {ρ3 G3 M3 H3 σ3 e3}, fr2 = ⟨H', G2, ρ1⟩ → SR nm X.K fr2 ρ3 G3 e3 M3 σ3 H3 → Dp ∉ ρ3 ∧ G3 Dp = none ∧ H3 Dp = some (.lst vacc1) := by
      rintro fr2 ρ3 G3 M3 H3 σ3 e3 rfl s3
      have nn : NT H' Dp := NT.lst hD2
      exact ⟨fun m => (s3.kp.nu Dp m).elim nD1 fun z => z nn, (s3.kp.fresh Dp nn).trans gD2, s3.kp.keep _ _ hD2 (fun _ z => by cases z) nD1⟩
    cases q : setT t ys[j] (blkE vs e) with
    | none => simp only [compF, q] at hF; cases hF
    | some e1 =>
      simp only [compF, q] at hF
      obtain ⟨k, e2, M2, qc, hF⟩ := noErr_bind hF
      refine tg nm ⟨H', G2, ρ1⟩ ρ1 G2 (blkE vs e) e1 M1 (wipe σ vs) H' ys[j] x _ sb rx q fun σ2 hw s2 => ⟨(hw vs hv).trans (wipe_wipe _ _), ?_⟩
      refine ⟨_, ρ1, G2, e1, M1, s2, ?_⟩
      rw [qc]
      intro H3 G3 ρ3 g23 p3 s3
      obtain ⟨d1, d2, d3⟩ := on rfl s3
      have r3 : Rps X.K ρ3 G3 acc1 vacc1 := racc.mono (g12.trans g23) p3
      have b3 : B ρ3 G3 H3 := b1 _ _ _ _ _ _ g1 bb (kp2.trans s3.kp)
      cases k with
      | false =>
        cases hF
        exact iteF ⟨ρ3, G3, _, acc1, vacc1, b3, (g1.trans g12).trans g23, p1.trans p3, s3.wf, d3, d2, d1, r3, by omega, hq⟩
      | true =>
        obtain ⟨y', e4, M4, qf, hF⟩ := noErr_bind hF
        cases hF
        refine iteT ⟨_, ρ3, G3, e2, M2, s3, ?_⟩
        rw [qf]
        intro v H4 G4 ρ4 g34 p4 s4 rv
        obtain ⟨d1, d2, d3⟩ := on rfl s4
        have b4 : B ρ4 G4 H4 := b1 _ _ _ _ _ _ g1 bb (kp2.trans s4.kp)
        refine ⟨vacc1, d3, ?_, ρ4, G4, _, acc1 ++ [y'], vacc1 ++ [v], b2 _ _ _ _ b4, ((g1.trans g12).trans g23).trans g34, (p1.trans p3).trans p4, s4.wf.writeOff d2 d1 (Soft.lst d3) (fun _ z => by cases z), upd_same, d2, d1,
          (r3.mono g34 p4).append (.cons rv .nil), by simp; omega, hq⟩
        rw [← racc.length]
        exact Nat.lt_of_le_of_lt (by omega) lim_lt
  · have ei : j = ys.length := by omega
    subst ei
    rw [List.drop_length] at hq
    cases hq
    exact .inl ⟨w.stop H sH, fin ρ1 G1 vacc1 H bb g1 p1 wf hDp gD1 nD1 racc⟩
/-- two for, the first without a test -/
theorem comp2_step {J : It} {fr : Fr} {ρ : List Addr} {G H1 : Hp} {e : Ev} {M : List MO} {σ : L2.St} {Q : VK} {t t1 : Tg} {g g1 : TG} {fi : Ev → List MO → Out (List D)} {c : Ev → List MO → Out Bool} {f : Ev → List MO → Out D} {ds : List D} {vs vs1 : List Nat} (tg : TgOk X t g) (tg1 : TgOk X t1 g1)
    (hv : t.ns ⊆ vs) (hv1 : t1.ns ⊆ vs1) (s : SR nm X.K fr ρ G e M σ H1) (w : WalkD J X.K ρ G ds)
    (h : pG nm X.K fr W (gdE nm X.K fr σ Q) ρ G ((cmpL2 (comp2F vs t fi vs1 t1 c f e) ds [] M).bind fun l _ M => .ok (.lst l) e M)) (Dp : Addr) (hD : H1 Dp = none) :
    ∃ Wv : Nat → Nat → Hp → Prop, (∃ m, Wv 0 m (upd H1 Dp (.lst []))) ∧ ∀ i m H, Wv i m H →
      (J.stop i H ∧ Q (.ref Dp) H) ∨ (J.go i H ∧ ∃ Nx : Hp → Prop, (∀ H', Nx H' → ∃ m', m' < m ∧ Wv (i + 1) m' H') ∧ ∀ x H', J.yld i H x H' → g x (wipe σ vs) H' fun σ2 H2 => wipe σ2 vs = wipe σ vs ∧
        (tT nm X.K WF0 fun e M => .ok true e M) σ2 H2 fun b H3 => if b = true then (tI nm X.K WF0 fi) σ2 H3 fun J1 H4 => ∃ W1 : Nat → Nat → Hp → Prop, (∃ m, W1 0 m H4) ∧ ∀ j k H, W1 j k H →
          (J1.stop j H ∧ Nx H) ∨ (J1.go j H ∧ ∃ Nx1 : Hp → Prop, (∀ H', Nx1 H' → ∃ k', k' < k ∧ W1 (j + 1) k' H') ∧ ∀ x H', J1.yld j H x H' → g1 x (wipe σ2 vs1) H' fun σ3 H5 => wipe σ3 vs1 = wipe σ2 vs1 ∧ (tT nm X.K WF0 c) σ3 H5 fun b H6 =>
            if b = true then (tE nm X.K WF0 f) σ3 H6 fun y H7 => ∃ acc, H7 Dp = some (.lst acc) ∧ acc.length < sizeLine ∧ Nx1 (upd H7 Dp (.lst (acc ++ [y]))) else Nx1 H6)
          else Nx H3) := by
  let Iv : Nat → Hp → Prop := fun i H => ∃ ρ1 G1 M1 acc vacc, Kp ρ G H1 ρ1 G1 H ∧ Wf nm X.K ρ1 G1 M1 H ∧ H Dp = some (.lst vacc) ∧ G1 Dp = none ∧ Dp ∉ ρ1 ∧ Rps X.K ρ1 G1 acc vacc ∧
    pG nm X.K fr W (gdE nm X.K fr σ Q) ρ1 G1 ((cmpL2 (comp2F vs t fi vs1 t1 c f e) (ds.drop i) acc M1).bind fun l _ M => .ok (.lst l) e M)
  have g0 := s.wf.none_of hD
  have n0 := s.wf.nin_of hD
  refine ⟨fun i m H => m = ds.length - i ∧ i ≤ ds.length ∧ Iv i H, ⟨_, rfl, Nat.zero_le _, ρ, G, M, [], [], Kp.refl.writeOff (NT.no hD) _, s.wf.writeOff g0 n0 (Soft.none hD) (fun _ z => by cases z), upd_same, g0, n0, .nil, by simpa using h⟩, ?_⟩
  rintro i m H ⟨rfl, hi, ρ1, G1, M1, acc, vacc, kp, wf, hDp, gD, nD, racc, h1⟩
  have ga : Same G G1 := kp.grows s.wf.sub
  have sH : Same G H := ga.trans wf.sub
  by_cases hlt : i < ds.length
  · refine .inr ⟨w.go i H hlt sH, Iv (i + 1), fun H' q => ⟨ds.length - (i + 1), by omega, rfl, hlt, q⟩, fun x H' y => ?_⟩
    obtain ⟨G2, nw, rx⟩ := w.yld i H x H' ds[i] (by simp [hlt]) sH y ρ1 G1 ga wf.sub kp.pre
    have kp2 : Kp ρ1 G1 H ρ1 G2 H' := Kp.new nw wf.sub
    have wf2 := wf.new nw
    have g12 := (nw.both wf.sub).1
    have sb := (s.step (kp.trans kp2) wf2).block vs
    rw [List.drop_eq_getElem_cons hlt] at h1
    have h1 := pG.mono gdE_mono g12 (Pre.refl _) h1
    simp only [cmpL2] at h1
    have hD2 : H' Dp = some (.lst vacc) := kp2.keep _ _ hDp (fun _ z => by cases z) nD
    have gD2 : G2 Dp = none := (kp2.fresh Dp (NT.lst hDp)).trans gD
    have on : ∀ {fr2 : Fr} {ρ3 G3 M3 H3 σ3 e3}, fr2 = ⟨H', G2, ρ1⟩ → SR nm X.K fr2 ρ3 G3 e3 M3 σ3 H3 → Dp ∉ ρ3 ∧ G3 Dp = none ∧ H3 Dp = some (.lst vacc) := by
      rintro fr2 ρ3 G3 M3 H3 σ3 e3 rfl s3
      have nn : NT H' Dp := NT.lst hD2
      exact ⟨fun m => (s3.kp.nu Dp m).elim nD fun z => z nn, (s3.kp.fresh Dp nn).trans gD2, s3.kp.keep _ _ hD2 (fun _ z => by cases z) nD⟩
    cases hF : comp2F vs t fi vs1 t1 c f e ds[i] acc M1 with
    | bad => rw [hF] at h1; exact h1.elim
    | err k fv e' M' =>
      exfalso
      simp only [comp2F] at hF
      cases q : setT t ds[i] (blkE vs e) with
      | none => rw [q] at hF; cases hF
      | some e1 =>
        rw [q] at hF
        cases q2 : fi e1 M1 with
        | bad => simp only [q2, noErr] at hF; cases hF
        | err => simp only [q2, noErr] at hF; cases hF
        | ok ys e2 M2 =>
          simp only [q2, noErr, Out.bind] at hF
          split at hF
          · have key : ∀ {F : D → List MO → Out (Option D)} (hk : ∀ x M, ∀ k fv e M', F x M ≠ .err k fv e M') (l acc : List D) (M : List MO) k fv e M', cmpL F l acc M ≠ .err k fv e M' := by
              intro F hk l
              induction l with
              | nil => intro acc M k fv e M' z; cases z
              | cons x l ih =>
                intro acc M k fv e M' z
                unfold cmpL at z
                cases q : F x M with
                | ok o e1 M1 => rw [q] at z; exact ih _ _ _ _ _ _ z
                | err k fv e M' => exact hk _ _ _ _ _ _ q
                | bad => rw [q] at z; cases z
            refine key (fun x M k fv e M' z => ?_) _ _ _ _ _ _ _ hF
            simp only [compF] at z
            split at z
            · cases z
            · rename_i e9 _
              cases q3 : c e9 M with
              | bad => simp only [q3, noErr, Out.bind] at z; cases z
              | err => simp only [q3, noErr, Out.bind] at z; cases z
              | ok k1 e8 M8 =>
                simp only [q3, noErr, Out.bind] at z
                cases k1 with
                | false => cases z
                | true =>
                  simp only at z
                  cases q4 : f e8 M8 with
                  | bad => simp only [q4] at z; cases z
                  | err => simp only [q4] at z; cases z
                  | ok => simp only [q4] at z; cases z
          · cases hF
    | ok acc' e9 M9 =>
      rw [hF] at h1
      simp only [comp2F] at hF
      cases q : setT t ds[i] (blkE vs e) with
      | none => rw [q] at hF; cases hF
      | some e1 =>
        rw [q] at hF
        obtain ⟨ys, e2, M2, qi, hF⟩ := noErr_bind hF
        split at hF
        · rename_i hlen
          refine tg nm ⟨H', G2, ρ1⟩ ρ1 G2 (blkE vs e) e1 M1 (wipe σ vs) H' ds[i] x _ sb rx q fun σ2 hw s2 => ⟨(hw vs hv).trans (wipe_wipe _ _), ?_⟩
          refine ⟨_, ρ1, G2, e1, M1, s2, fun H3 G3 ρ3 g23 p3 s3 => iteT ?_⟩
          refine ⟨_, ρ3, G3, e1, M1, s3, ?_⟩
          rw [qi]
          intro J1 H4 G4 ρ4 g34 p4 s4 w1
          obtain ⟨d1, d2, d3⟩ := on rfl s4
          have kp4 : Kp ρ G H1 ρ4 G4 H4 := (kp.trans kp2).trans s4.kp
          refine inner_step tg1 hv1 s4 w1 hlen d3 d2 d1 (racc.mono ((g12.trans g23).trans g34) (p3.trans p4)) hF (fun ρ' G' H' => Kp ρ G H1 ρ' G' H') kp4 (fun ρ1 G1 H ρ2 G2 H' _ a b => a.trans b) (fun ρ1 G1 H o a => a.writeOff (NT.no hD) (.lst o)) _ ?_
          intro ρ5 G5 vacc5 H5 b5 g5 p5 wf5 h5 gd5 nd5 ra5
          exact ⟨ρ5, G5, M9, acc', vacc5, b5, wf5, h5, gd5, nd5, ra5, pG.mono gdE_mono ((g23.trans g34).trans g5) ((p3.trans p4).trans p5) h1⟩
        · cases hF
  · have ei : i = ds.length := by omega
    subst ei
    refine .inl ⟨w.stop H sH, ?_⟩
    rw [List.drop_length] at h1
    have s1 := s.step kp wf
    have hf : ¬ NT fr.H Dp := fun z => NT.no hD (s.kp.live Dp z)
    have s2 := s1.mark hDp gD nD hf (Soft.lst hDp) fun j xs q z => by
      obtain ⟨a, ws, k1, _, _, _, k5, _⟩ := s.owns j xs q
      rw [z] at k1
      cases k1
      rw [hD] at k5; cases k5
    exact h1 (.ref Dp) H _ ρ1 (Same.upd gD) (Pre.refl _) s2 (.lst upd_same (racc.mono (Same.upd gD) (Pre.refl _)))
section
variable {fi fj : Ev → List MO → Out (List D)} {ft : Ev → List MO → Out Bool} {fa : Ev → List MO → Out D}
theorem sE_comp2 {elt tgx iter tgy iter1 : Expr} {ifs : List Expr} {scope : Scope} {own : List (Str × Nat)} {vs1 : List Nat} {t t1 : Tg} {g g1 : TG} (gx : GX X) (hi : PI X tgx iter (tI nm X.K W fi)) (ok : BlkOk X.N X.env.scope scope own) (hvs : ∀ i ∈ vs1, i ∈ own.map (·.2))
    (tg : TgOk X t g) (hv : t.ns ⊆ own.map (·.2)) (tg1 : TgOk X t1 g1) (hv1 : t1.ns ⊆ vs1)
    (hg : ∀ (s : Shared) (H : Hp) (C : Addr) (cl : List (Str × Addr)) (fp : List Addr), PG (X.blk s H scope (compEnvC scope cl C X.env) fp) tgx g)
    (hi1 : ∀ (s : Shared) (H : Hp) (C : Addr) (cl : List (Str × Addr)) (fp : List Addr), PI (X.blk s H scope (compEnvC scope cl C X.env) fp) tgy iter1 (tI nm X.K WF0 fj))
    (hg1 : ∀ (s : Shared) (H : Hp) (C : Addr) (cl : List (Str × Addr)) (fp : List Addr), PG (X.blk s H scope (compEnvC scope cl C X.env) fp) tgy g1)
    (ht1 : ∀ (s : Shared) (H : Hp) (C : Addr) (cl : List (Str × Addr)) (fp : List Addr), PTs (X.blk s H scope (compEnvC scope cl C X.env) fp) ifs (tT nm X.K WF0 ft))
    (he : ∀ (s : Shared) (H : Hp) (C : Addr) (cl : List (Str × Addr)) (fp : List Addr), PE (X.blk s H scope (compEnvC scope cl C X.env) fp) elt (tE nm X.K WF0 fa)) (hs : ∀ x, foldedSetIterable iter X.env x = pure x) (hs1 : ∀ env x, foldedSetIterable iter1 env x = pure x) :
    PE X (.ListComp elt [⟨tgx, iter, [], 0⟩, ⟨tgy, iter1, ifs, 0⟩] scope pos) (tE nm X.K W fun e M => (fi e M).bind fun xs e M => (cmpL2 (comp2F (own.map (·.2)) t fj vs1 t1 ft fa e) xs [] M).bind fun l _ M => .ok (.lst l) e M) := by
  refine (pe_lc2 (tt := tT nm X.K WF0 fun e M => .ok true e M) gx.calm gx.nd hi ok hvs hg (fun s H C cl fp => sP_no (X := X.blk s H scope (compEnvC scope cl C X.env) fp) (nm := nm) (W := WF0)) hi1 hg1 ht1 he hs hs1).imp fun σ H Q ⟨fr, ρ, G, e, M, s, h⟩ => ?_
  refine tI.bind gdE_mono s h fun J ρ1 G1 e1 M1 ds H1 g1 p1 s1 w h1 Dp hD => ?_
  exact comp2_step tg tg1 hv hv1 s1 w h1 Dp hD
theorem sS_comp2 {i : Nat} {y : Str} {py : Pos} {spos : Pos} {elt tgx iter tgy iter1 : Expr} {ifs : List Expr} {scope : Scope} {own : List (Str × Nat)} {vs1 : List Nat} {t t1 : Tg} {g g1 : TG} (gx : GX X) (hy : X.N[i]? = some y) (hyl : X.env.scope.names.lookup y = some .local)
    (hsw : swapsWith (.ListComp elt [⟨tgx, iter, [], 0⟩, ⟨tgy, iter1, ifs, 0⟩] scope pos) (some (.Name y py)) spos.line X.env = pure true) (hi : PI X tgx iter (tI nm X.K W fi)) (ok : BlkOk X.N X.env.scope scope own) (hvs : ∀ i ∈ vs1, i ∈ own.map (·.2))
    (tg : TgOk X t g) (hv : t.ns ⊆ own.map (·.2)) (tg1 : TgOk X t1 g1) (hv1 : t1.ns ⊆ vs1)
    (hg : ∀ (s : Shared) (H : Hp) (C : Addr) (cl : List (Str × Addr)) (fp : List Addr), PG (X.blk s H scope (compEnvC scope cl C X.env) fp) tgx g)
    (hi1 : ∀ (s : Shared) (H : Hp) (C : Addr) (cl : List (Str × Addr)) (fp : List Addr), PI (X.blk s H scope (compEnvC scope cl C X.env) fp) tgy iter1 (tI nm X.K WF0 fj))
    (hg1 : ∀ (s : Shared) (H : Hp) (C : Addr) (cl : List (Str × Addr)) (fp : List Addr), PG (X.blk s H scope (compEnvC scope cl C X.env) fp) tgy g1)
    (ht1 : ∀ (s : Shared) (H : Hp) (C : Addr) (cl : List (Str × Addr)) (fp : List Addr), PTs (X.blk s H scope (compEnvC scope cl C X.env) fp) ifs (tT nm X.K WF0 ft))
    (he : ∀ (s : Shared) (H : Hp) (C : Addr) (cl : List (Str × Addr)) (fp : List Addr), PE (X.blk s H scope (compEnvC scope cl C X.env) fp) elt (tE nm X.K WF0 fa)) (hs : ∀ x, foldedSetIterable iter X.env x = pure x) (hs1 : ∀ env x, foldedSetIterable iter1 env x = pure x) :
    PS X (.Assign [.Name y py] (.ListComp elt [⟨tgx, iter, [], 0⟩, ⟨tgy, iter1, ifs, 0⟩] scope pos) spos) (tS nm X.K W fun e M => ((fi e M).bind fun xs e M => (cmpL2 (comp2F (own.map (·.2)) t fj vs1 t1 ft fa e) xs [] M).bind fun l _ M => .ok (.lst l) e M).bind
      fun d e M => .ok .nx (e.set i (.val d)) M) := by
  refine (ps_setLc2 (tt := tT nm X.K WF0 fun e M => .ok true e M) gx.calm gx.nd hy hyl hsw hi ok hvs hg (fun s H C cl fp => sP_no (X := X.blk s H scope (compEnvC scope cl C X.env) fp) (nm := nm) (W := WF0)) hi1 hg1 ht1 he hs hs1).imp fun E σ H ⟨fr, ρ, G, e, M, s, h⟩ => ?_
  show tLc2 _ _ _ _ _ _ _ _ _ σ H _
  have key : pG nm X.K fr W (gdE nm X.K fr σ fun v H' => E.nx (σ.set i (some v)) H') ρ G ((fi e M).bind fun xs e M => (cmpL2 (comp2F (own.map (·.2)) t fj vs1 t1 ft fa e) xs [] M).bind fun l _ M => .ok (.lst l) e M) := by
    cases q : ((fi e M).bind fun xs e M => (cmpL2 (comp2F (own.map (·.2)) t fj vs1 t1 ft fa e) xs [] M).bind fun l _ M => .ok (D.lst l) e M) with
    | bad => simp only [q] at h; exact h
    | err k fv e' M' => simp only [q] at h; exact h
    | ok d e' M' =>
      simp only [q] at h
      exact fun v H' G' ρ' g p r' rv => h _ H' G' ρ' g p (r'.setv rv)
  refine tI.bind gdE_mono s key fun J ρ1 G1 e1 M1 ds H1 g1 p1 s1 w h1 Dp hD => ?_
  exact comp2_step tg tg1 hv hv1 s1 w h1 Dp hD
end
end
end PM

namespace PM
open PySem PySem.Spec PyProof.Rows L2

/-! ### targets -/
def putI (x y d : D) (e : Ev) (M : List MO) : Out Unit := match x, y with
  | .ref j, .int k => match M[j]? with
    | some (.lst xs) => match ixN xs.length k with
      | some n => .ok () e (M.set j (.lst (xs.set n d)))
      | none => .bad
    | _ => .bad
  | _, _ => .bad
def gdU (nm : Nm) (K : Frg) (fr : Fr) (Q : L2.St → Hp → Prop) : Gd Unit := fun ρ G _ e M => ∀ σ' H' G' ρ', Same G G' → Pre ρ ρ' → SR nm K fr ρ' G' e M σ' H' → Q σ' H'
theorem gdU_mono {nm : Nm} {K : Frg} {fr : Fr} {Q : L2.St → Hp → Prop} : (gdU nm K fr Q).Mono := fun _ _ _ _ _ _ _ g p h s H1 G1 ρ1 h1 h2 h3 => h s H1 G1 ρ1 (g.trans h1) (p.trans h2) h3
def tG (nm : Nm) (K : Frg) (W : WX) (f : D → Ev → List MO → Out Unit) : TG := fun v σ H Q => ∃ fr ρ G e M d, SR nm K fr ρ G e M σ H ∧ Rp K ρ G d v ∧ pG nm K fr W (gdU nm K fr Q) ρ G (f d e M)
def tGs (nm : Nm) (K : Frg) (W : WX) (f : List D → Ev → List MO → Out Unit) : TGs := fun vs σ H Q => ∃ fr ρ G e M ds, SR nm K fr ρ G e M σ H ∧ Rps K ρ G ds vs ∧ pG nm K fr W (gdU nm K fr Q) ρ G (f ds e M)
theorem _root_.L2.PG.imp {X : Cx} {x : Expr} {t t' : TG} (h : PG X x t) (k : ∀ v σ H Q, t' v σ H Q → t v σ H Q) : PG X x t' := ⟨fun pins s σ H v u Q I r q => h.run pins s σ H v u Q I r (k v σ H Q q)⟩
theorem _root_.L2.PGs.imp {X : Cx} {x : List Expr} {t t' : TGs} (h : PGs X x t) (k : ∀ v σ H Q, t' v σ H Q → t v σ H Q) : PGs X x t' := ⟨fun pins s σ H v u Q I r q => h.run pins s σ H v u Q I r (k v σ H Q q)⟩
/-- a tuple's items, by number -/
def unT (n : Nat) (f : List D → Ev → List MO → Out Unit) (d : D) (e : Ev) (M : List MO) : Out Unit := match d with
  | .tup xs => if xs.length = n then f xs e M else .bad
  | _ => .bad
def nxS (o : Out Unit) : Out Fl := o.bind fun _ e M => .ok .nx e M
section
variable {X : Cx} {nm : Nm} {W : WX} {pos : Pos} {a b c : Expr} {es : List Expr} {fa fb fo : Ev → List MO → Out D} {ga : Ev → List MO → Out (List D)}
theorem sG_name {i : Nat} {x : Str} (h : PG X (.Name x pos) (gName i)) : PG X (.Name x pos) (tG nm X.K W fun d e M => .ok () (e.set i (.val d)) M) :=
  h.imp fun v σ H Q ⟨fr, ρ, G, e, M, d, s, r, h⟩ => h _ H G ρ (Same.refl _) (Pre.refl _) (s.setv r)
theorem sG_sub (ha : PE X a (tE nm X.K W fa)) (hb : PE X b (tE nm X.K W fb)) (hs : ∀ v, assign (.Subscript a b pos) X.env v = (do
      let ov ← holding [v] (eval a X.env)
      let iv ← holding [v, ov] (eval b X.env)
      standAt pos
      holding [v, ov, iv] (setItem ov iv v)
      release [v, ov, iv] [])) : PG X (.Subscript a b pos) (tG nm X.K W fun d e M => (fa e M).bind fun x e M => (fb e M).bind fun y e M => putI x y d e M) := by
  refine (pg_sub ha hb set_list hs).imp fun v σ H Q ⟨fr, ρ, G, e, M, d, s, r, h⟩ => ?_
  refine tE.bind gdU_mono s h fun ρ1 G1 e1 M1 x vx H1 g1 p1 s1 r1 h1 => ?_
  refine tE.bind gdU_mono s1 h1 fun ρ2 G2 e2 M2 y vy H2 g2 p2 s2 r2 h2 => ?_
  have r' := r.mono (g1.trans g2) (p1.trans p2)
  have r1 := r1.mono g2 p2
  cases r1 with
  | @ref p j ej =>
    cases r2 with
    | int k =>
      simp only [putI] at h2
      cases hm : M2[j]? with
      | none => rw [hm] at h2; exact h2.elim
      | some m =>
        rw [hm] at h2
        cases m with
        | lst xs =>
          simp only at h2
          obtain ⟨vs, k1, k2⟩ := s2.wf.obj _ _ _ hm ej
          cases hn : ixN xs.length k with
          | none => rw [hn] at h2; exact h2.elim
          | some n =>
            rw [hn] at h2
            refine ⟨p, vs, k, n, rfl, rfl, k1, by rw [← k2.length]; exact hn, ?_⟩
            exact h2 σ _ G2 ρ2 (Same.refl _) (Pre.refl _) (s2.step (Kp.write (List.mem_of_getElem? ej) _) (s2.wf.write (m := .lst (xs.set n d)) ej (fun H' hH => ⟨_, hH, k2.set n r'⟩) (Soft.lst k1) (fun _ z => by cases z)))
        | ins _ _ => exact h2.elim
        | dead => exact h2.elim
    | _ => exact h2.elim
  | _ => exact h2.elim
theorem sGs_nil : PGs X [] (tGs nm X.K W fun ds e M => match ds with | [] => .ok () e M | _ :: _ => .bad) :=
  pgs_nil.imp fun vs σ H Q ⟨fr, ρ, G, e, M, ds, s, r, h⟩ => by
    cases r with
    | nil => exact ⟨rfl, h σ H G ρ (Same.refl _) (Pre.refl _) s⟩
    | cons _ _ => exact h.elim
theorem sGs_cons {f : D → Ev → List MO → Out Unit} {g : List D → Ev → List MO → Out Unit} (h1 : PG X a (tG nm X.K W f)) (h2 : PGs X es (tGs nm X.K W g)) (hs : (assignEach (a :: es) X.env).map (·.2) = assign a X.env :: (assignEach es X.env).map (·.2)) :
    PGs X (a :: es) (tGs nm X.K W fun ds e M => match ds with | [] => .bad | d :: ds => (f d e M).bind fun _ e M => g ds e M) :=
  (pgs_cons h1 h2 hs).imp fun vs σ H Q ⟨fr, ρ, G, e, M, ds, s, r, h⟩ => by
    cases r with
    | nil => exact h.elim
    | @cons d v ds vs rd rs =>
      refine ⟨v, vs, rfl, fr, ρ, G, e, M, d, s, rd, ?_⟩
      cases q : f d e M with
      | bad => simp only [q] at h; exact h
      | err c fv e' M' => simp only [q] at h; exact h
      | ok u e' M' =>
        simp only [q] at h
        exact fun σ' H' G' ρ' g' p' s' => ⟨fr, ρ', G', e', M', ds, s', rs.mono g' p', pG.mono gdU_mono g' p' h⟩
theorem sG_tup {k n : Nat} {f : List D → Ev → List MO → Out Unit} (gx : GX X) (h : PGs X es (tGs nm X.K W f)) (hn : (assignEach es X.env).length = n) (hst : (assignEach es X.env).findIdx? (·.1) = none) : PG X (.Tuple es k pos) (tG nm X.K W (unT n f)) :=
  (pg_tup gx.calm h hn hst).imp fun v σ H Q ⟨fr, ρ, G, e, M, d, s, r, h⟩ => by
    cases r with
    | @tup p xs vs sq rs =>
      simp only [unT] at h
      split at h
      · rename_i hl
        exact ⟨p, vs, rfl, SqT.up s.wf.sub sq, by rw [← rs.length]; exact hl, fr, ρ, G, e, M, xs, s, rs, h⟩
      · exact h.elim
    | _ => exact h.elim
/-- target = e -/
theorem sS_asgG {tg : Expr} {f : D → Ev → List MO → Out Unit} (ha : PE X a (tE nm X.K W fa)) (hg : PG X tg (tG nm X.K W f)) (hs : swapsWithSole [tg] a pos.line X.env = pure false) (hw : swappedStores [tg] a X.env = pure none) (h1 : (assignEach [tg] X.env).map (·.2) = [assign tg X.env]) :
    PS X (.Assign [tg] a pos) (tS nm X.K W fun e M => (fa e M).bind fun d e M => nxS (f d e M)) :=
  (ps_asg ha hg hs hw h1).imp fun E σ H ⟨fr, ρ, G, e, M, s, h⟩ => by
    refine tE.bind gdS_mono s h fun ρ1 G1 e1 M1 d v H1 g1 p1 s1 r1 h1 => ?_
    refine ⟨fr, ρ1, G1, e1, M1, d, s1, r1, ?_⟩
    cases q : f d e1 M1 with
    | bad => simp only [q, nxS] at h1; exact h1
    | err c fv e' M' => simp only [q, nxS] at h1; exact h1
    | ok u e' M' => simp only [q, nxS] at h1; exact h1
/-- a, b = x, y -/
theorem sS_par {i j : Nat} {x y : Str} {px py pt : Pos} {kt k2 pt2} (gx : GX X) (hi : X.N[i]? = some x) (hj : X.N[j]? = some y) (hij : i ≠ j)
    (hx : X.env.scope.names.lookup x = some .local) (hy : X.env.scope.names.lookup y = some .local) (ha : PA X [a, b] (tA nm X.K W ga))
    (hw : swappedStores [.Tuple [.Name x px, .Name y py] kt pt] (.Tuple [a, b] k2 pt2) X.env = pure (some [x, y]))
    (hs : swapsWithSole [.Tuple [.Name x px, .Name y py] kt pt] (.Tuple [a, b] k2 pt2) pos.line X.env = pure false) :
    PS X (.Assign [.Tuple [.Name x px, .Name y py] kt pt] (.Tuple [a, b] k2 pt2) pos) (tS nm X.K W fun e M => ((ga e M).bind fun ds e M => if ds.length ≤ lim then .ok (.tup ds) e M else .bad).bind fun d e M =>
      nxS (unT 2 (fun ds e M => match ds with | [] => .bad | d :: ds => (Out.ok () (e.set i (.val d)) M : Out Unit).bind fun _ e M => match ds with | [] => .bad | d :: ds => (Out.ok () (e.set j (.val d)) M : Out Unit).bind fun _ e M => match ds with | [] => .ok () e M | _ :: _ => .bad) d e M)) :=
  (ps_par gx.calm gx.nd hi hj hij hx hy ha hw hs).imp fun E σ H ⟨fr, ρ, G, e, M, s, h⟩ => by
    have h' : pG nm X.K fr W (gdS nm X.K fr E) ρ G ((ga e M).bind fun ds e M => match ds with | [d, u] => .ok .nx ((e.set i (.val d)).set j (.val u)) M | _ => .bad) := by
      cases q : ga e M with
      | bad => simp only [q] at h; exact h
      | err c fv e' M' => simp only [q] at h; exact h
      | ok ds e' M' =>
        simp only [] at h
        rw [q] at h
        have h : pG nm X.K fr W (gdS nm X.K fr E) ρ G ((if ds.length ≤ lim then Out.ok (D.tup ds) e' M' else .bad).bind _) := h
        by_cases hlim : ds.length ≤ lim
        · rw [if_pos hlim] at h
          match ds, h with
          | [d, u], h => exact h
          | [], h => exact h.elim
          | [_], h => exact h.elim
          | x :: y :: z :: r, h =>
            have n : ¬ (x :: y :: z :: r).length = 2 := by simp
            simp only [Out.bind, unT, if_neg n, nxS] at h
            exact h.elim
        · rw [if_neg hlim] at h; exact h.elim
    refine tA.bind gdS_mono s h' fun ρ1 G1 e1 M1 ds vs H1 g1 p1 s1 r1 h1 => ?_
    match ds, r1, h1 with
    | [d, u], r1, h1 =>
      obtain ⟨v, w, rfl, rv, rw'⟩ := r1.two
      exact ⟨v, w, rfl, h1 _ H1 G1 ρ1 (Same.refl _) (Pre.refl _) ((s1.setv rv).setv rw')⟩
    | [], _, h1 => exact h1.elim
    | [_], _, h1 => exact h1.elim
    | _ :: _ :: _ :: _, _, h1 => exact h1.elim
end
end PM

namespace PM
open PySem PySem.Spec PyProof.Rows L2

section
variable {nm : Nm} {K : Frg} {ρ ρ' : List Addr} {G G' H H' : Hp} {M M' : List MO} {fr : Fr} {e e' : Ev} {σ σ' : L2.St}
/-- a new mutable object -/
theorem Wf.allocO (w : Wf nm K ρ G M H) {p : Addr} (hp : H p = none) {o : HO} {m : MO} (r : MRep nm K (ρ ++ [p]) G (upd H p o) p m) (ho : ∀ ps, o ≠ .tbl ps) : Wf nm K (ρ ++ [p]) G (M ++ [m]) (upd H p o) where
  sub := fun b u q => by rw [upd_ne (ne_of_none (w.sub b u q) hp)]; exact w.sub b u q
  len := by simp [w.len]
  nd := List.nodup_append.mpr ⟨w.nd, by simp, fun a ha b hb z => by
    have : b = p := by simpa using hb
    subst this; subst z
    exact w.nin_of hp ha⟩
  off := fun a m => by
    rcases List.mem_append.mp m with m | m
    · have n : a ≠ p := fun z => w.nin_of hp (z ▸ m)
      exact ⟨(w.off a m).1, (w.off a m).2.wr n⟩
    · have : a = p := by simpa using m
      subst this
      exact ⟨w.none_of hp, ⟨o, upd_same, ho⟩⟩
  obj := fun i m' a hm ha => by
    by_cases hi : i < M.length
    · rw [List.getElem?_append_left hi] at hm
      rw [List.getElem?_append_left (by rw [w.len]; exact hi)] at ha
      have n : a ≠ p := fun z => w.nin_of hp (z ▸ List.mem_of_getElem? ha)
      exact (w.obj i m' a hm ha).mono (Same.refl _) (Pre.push _ _) (upd_ne n)
    · rw [List.getElem?_append_right (by omega)] at hm
      rw [List.getElem?_append_right (by rw [w.len]; omega), w.len] at ha
      have hz : i - M.length = 0 := by
        cases q : i - M.length with
        | zero => rfl
        | succ n => rw [q] at hm; simp at hm
      rw [hz] at hm ha
      simp at hm ha
      subst hm; subst ha
      exact r
  gt := w.gt
  tabs := tab_upd w.tabs hp
  tfr := fun q hq => by
    obtain ⟨h1, h2⟩ := w.tfr q hq
    obtain ⟨ps, h3, _⟩ := w.tabs q hq
    refine ⟨h1, fun z => ?_⟩
    rcases List.mem_append.mp z with z | z
    · exact h2 z
    · have : q.1 = p := by simpa using z
      rw [this, hp] at h3; cases h3
theorem FnG.ok {P : Program} {w : World} {mg : Str → Option Value} {base : Heap} {k : Nat} {f : Addr} {fd : FuncData} {ps : List Str} {sp : Sp} (F : FnG false P w K mg base k f fd ps sp) : FnOk P w K mg base (L2.CX P w) k f fd ps sp :=
  ⟨F.len, fun A outer s H args us vs Q E hr e0 hb r h => F.run A outer s H args us vs Q E hr (fun z => absurd z (by decide)) e0 hb r h⟩
end

/-- the receiver of a method -/
def rcvD (c : Nat) (x : D) (M : List MO) : Bool := match insOf x M with
  | some (_, k, fs) => decide (k = c) && decide (fs.length ≤ 100)
  | none => false
def mkF (g : List D → List MO → CO) (c : Nat) (ds : List D) (e : Ev) (M : List MO) : Out D := match g (.ref M.length :: ds) (M ++ [.ins c []]) with
  | .ok .non M' => .ok (.ref M.length) e M'
  | .ok _ _ => .bad
  | .err k fv M' => .err k fv e M'
  | .bad => .bad
theorem rcvD_spec {nm : Nm} {K : Frg} {ρ : List Addr} {G H : Hp} {M : List MO} {c : Nat} {x : D} {v : V} {m : Str} (w : Wf nm K ρ G M H) (r : Rp K ρ G x v) (h : rcvD c x M = true) (hm : ∀ f, nm.fld f ≠ m) :
    ∃ a dx q, v = .ref a ∧ H a = some (.ins (nm.cls c) dx q) ∧ q.lookup m = none := by
  unfold rcvD insOf at h
  cases r with
  | @ref p i ei =>
    simp only at h
    cases hm' : M[i]? with
    | none => rw [hm'] at h; simp at h
    | some o =>
      rw [hm'] at h
      cases o with
      | ins k fs =>
        simp only [Bool.and_eq_true, decide_eq_true_eq] at h
        obtain ⟨rfl, _⟩ := h
        obtain ⟨dx, q, k1, k2⟩ := w.obj _ _ _ hm' ei
        refine ⟨p, dx, q, rfl, k1, ?_⟩
        have : ∀ {fs : List (Nat × D)} {q : List (Str × V)}, Rfs nm K ρ G fs q → q.lookup m = none := by
          intro fs q r
          induction r with
          | nil => rfl
          | @cons f d v r q a b ih =>
            have n1 : (m == nm.fld f) = false := by simp only [beq_eq_false_iff_ne, ne_eq]; exact fun z => hm f z.symm
            simp only [List.lookup, n1]
            exact ih
        exact this k2
      | lst _ => simp at h
      | dead => simp at h
  | _ => simp at h
section
variable {X : Cx} {nm : Nm} {W : WX} {pos : Pos} {a b c o : Expr} {es : List Expr} {fa fb fo : Ev → List MO → Out D} {ga : Ev → List MO → Out (List D)}
/-- o.m(..) of an instance of the text -/
theorem sE_mcall {gd : Bool} {cn k n : Nat} {f : Addr} {m : Str} {fd : FuncData} {ps : List Str} {g : List D → List MO → CO} {pl : Sem Bool} {apos : Pos} (ho : PE X o (tE nm X.K W fo)) (cc : Cls X.K (nm.cls cn)) (hm : Meth X.K (nm.cls cn) m f) (hmf : ∀ f, nm.fld f ≠ m)
    (F : FnG gd X.prog X.w X.K X.mg X.base k f fd ps (spD nm X.K n g)) (hr : Room k X.A) (hgd : gd = true → X.A.guards = some []) (tk : Takes X W) (hb : Binds X.K fd ps [])
    (hgn : ∀ ds M, ds.length ≠ n → g ds M = .bad) (hx : PA X (a :: es) (tA nm X.K W ga)) (he : starEach (a :: es) X.env = (false, eval a X.env) :: starEach es X.env) (hpl : (backTo pos (starEach es X.env)).any (·.1) = false)
    (ht : eval (.Call (.Attribute o m apos) (a :: es) [] pos) X.env = (do
      let ov ← eval o X.env
      standAt apos.atName
      let (f, first) ← holding [ov] (getMethod ov m pl)
      callWith pos f first (backTo pos (starEach (a :: es) X.env)) (backToKw pos (keywordEach [] X.env)))) :
    PE X (.Call (.Attribute o m apos) (a :: es) [] pos) (tE nm X.K W fun e M => (fo e M).bind fun x e M => if rcvD cn x M then (ga e M).bind fun ds e M => (g (x :: ds) M).out e else .bad) := by
  refine ⟨fun pins s σ H Q I ⟨fr, ρ, G, e, M, r, h⟩ => ?_⟩
  refine PySem.W.methodCall_KW (pl := pl) (thn (ho.run pins s σ H (fun v H1 => ∃ ρ1 G1 e1 M1 x, SR nm X.K fr ρ1 G1 e1 M1 σ H1 ∧ Rp X.K ρ1 G1 x v ∧ pG nm X.K fr W (gdE nm X.K fr σ Q) ρ1 G1 (if rcvD cn x M1 then (ga e1 M1).bind fun ds e M => (g (x :: ds) M).out e else .bad)) I
    (tE.bind gdE_mono r h fun ρ1 G1 e1 M1 x v H1 g1 p1 s1 r1 h1 => ⟨ρ1, G1, e1, M1, x, s1, r1, h1⟩)) fun u s1 ⟨v, H1, I1, ru, ρ1, G1, e1, M1, x, s2, rx, h1⟩ => ?_) ht
  split at h1
  · rename_i hrc
    obtain ⟨p, dx, q, rfl, k1, k2⟩ := rcvD_spec s2.wf rx hrc hmf
    obtain rfl : u = Value.ref p := ru
    refine getmeth_ok I1 k1 cc hm k2 ?_
    refine PySem.W.callWith_K (first := [.ref p]) (h₀ := X.base) I.ok.mod.kin hm.kp (thn (hx.run pos pins s1 σ H1 (fun vs H2 => ∃ ρ2 G2 e2 M2 ds, SR nm X.K fr ρ2 G2 e2 M2 σ H2 ∧ Rps X.K ρ2 G2 (x :: ds) (.ref p :: vs) ∧ pG nm X.K fr W (gdE nm X.K fr σ Q) ρ2 G2 ((g (x :: ds) M2).out e2)) I1
      (tA.bind gdE_mono s2 h1 fun ρ2 G2 e2 M2 ds vs H2 g2 p2 s3 r2 h2 => ⟨ρ2, G2, e2, M2, ds, s3, .cons (rx.mono g2 p2) r2, h2⟩)) fun us s3 ⟨vs, H2, I2, rv, ρ2, G2, e2, M2, ds, s4, r2, h2⟩ => ⟨I2.kIn, ?_⟩) he hpl
    exact call_fin F hr hgd tk hb hgn I2 (show Vals (V.ref p :: vs) (Value.ref p :: us) from .cons rfl rv) s4 r2 h2
  · exact h1.elim
theorem sE_mcall0 {gd : Bool} {cn k n : Nat} {f : Addr} {m : Str} {fd : FuncData} {ps : List Str} {g : List D → List MO → CO} {pl : Sem Bool} {apos : Pos} (ho : PE X o (tE nm X.K W fo)) (cc : Cls X.K (nm.cls cn)) (hm : Meth X.K (nm.cls cn) m f) (hmf : ∀ f, nm.fld f ≠ m)
    (F : FnG gd X.prog X.w X.K X.mg X.base k f fd ps (spD nm X.K n g)) (hr : Room k X.A) (hgd : gd = true → X.A.guards = some []) (tk : Takes X W) (hb : Binds X.K fd ps [])
    (hgn : ∀ ds M, ds.length ≠ n → g ds M = .bad)
    (ht : eval (.Call (.Attribute o m apos) [] [] pos) X.env = (do
      let ov ← eval o X.env
      standAt apos.atName
      let (f, first) ← holding [ov] (getMethod ov m pl)
      callWith pos f first (backTo pos (starEach [] X.env)) (backToKw pos (keywordEach [] X.env)))) :
    PE X (.Call (.Attribute o m apos) [] [] pos) (tE nm X.K W fun e M => (fo e M).bind fun x e M => if rcvD cn x M then (g [x] M).out e else .bad) := by
  refine ⟨fun pins s σ H Q I ⟨fr, ρ, G, e, M, r, h⟩ => ?_⟩
  refine PySem.W.methodCall_KW (pl := pl) (thn (ho.run pins s σ H (fun v H1 => ∃ ρ1 G1 e1 M1 x, SR nm X.K fr ρ1 G1 e1 M1 σ H1 ∧ Rp X.K ρ1 G1 x v ∧ pG nm X.K fr W (gdE nm X.K fr σ Q) ρ1 G1 (if rcvD cn x M1 then (g [x] M1).out e1 else .bad)) I
    (tE.bind gdE_mono r h fun ρ1 G1 e1 M1 x v H1 g1 p1 s1 r1 h1 => ⟨ρ1, G1, e1, M1, x, s1, r1, h1⟩)) fun u s1 ⟨v, H1, I1, ru, ρ1, G1, e1, M1, x, s2, rx, h1⟩ => ?_) ht
  split at h1
  · rename_i hrc
    obtain ⟨p, dx, q, rfl, k1, k2⟩ := rcvD_spec s2.wf rx hrc hmf
    obtain rfl : u = Value.ref p := ru
    refine getmeth_ok I1 k1 cc hm k2 ?_
    exact PySem.W.callWith_K0 (first := [.ref p]) I1.kIn hm.kp (call_fin (us := [.ref p]) F hr hgd tk hb hgn I1 (show Vals [V.ref p] [Value.ref p] from .cons rfl .nil) s2 (.cons rx .nil) h1)
  · exact h1.elim
/-- C(..), the arguments evaluated -/
theorem make_fin {cn k n : Nat} {f : Addr} {fd : FuncData} {ps : List Str} {g : List D → List MO → CO} (Mc : Mk X.K (nm.cls cn) f) (F : FnG false X.prog X.w X.K X.mg X.base k f fd ps (spD nm X.K n g)) (hr : Room (k + 1) X.A) (tk : Takes X W) (hb : Binds X.K fd ps [])
    (hgn : ∀ ds M, ds.length ≠ n → g ds M = .bad) {pins : List (Addr × Obj)} {fr : Fr} {us : List Value} {vs : List V} {ρ1 : List Addr} {G1 H1 : Hp} {e1 : Ev} {M1 : List MO} {ds : List D} {s1 : Shared} {σ : L2.St} {Q : VK}
    (I1 : Inv X pins σ H1 s1) (rv : Vals vs us) (s2 : SR nm X.K fr ρ1 G1 e1 M1 σ H1) (rs : Rps X.K ρ1 G1 ds vs)
    (h1 : pG nm X.K fr W (gdE nm X.K fr σ Q) ρ1 G1 (mkF g cn ds e1 M1)) : wpAny (model X.prog X.w) X.A (call (.ref (nm.cls cn)) us) (EP X pins σ Q) X.xe s1 := by
  have nD : H1 s1.heap.objs.size = none := I1.hok.fresh (Nat.le_refl _)
  have nX : upd H1 s1.heap.objs.size (.own (s1.heap.objs.size + 1)) (s1.heap.objs.size + 1) = none := by
    rw [upd_ne (Nat.ne_of_gt (Nat.lt_succ_self _))]
    exact I1.hok.fresh (Nat.le_succ _)
  have s3 := s2.alloc nD (.own (s1.heap.objs.size + 1))
  have w4 : Wf nm X.K (ρ1 ++ [s1.heap.objs.size + 1]) (upd G1 s1.heap.objs.size (.own (s1.heap.objs.size + 1))) (M1 ++ [.ins cn []]) (upd (upd H1 s1.heap.objs.size (.own (s1.heap.objs.size + 1))) (s1.heap.objs.size + 1) (.ins (nm.cls cn) s1.heap.objs.size [])) :=
    s3.wf.allocO nX ⟨s1.heap.objs.size, [], upd_same, .nil⟩ (fun _ z => by cases z)
  have s4 := s3.step (Kp.allocM s3.wf nX _) w4
  have gs : Same G1 (upd G1 s1.heap.objs.size (.own (s1.heap.objs.size + 1))) := Same.upd (s2.wf.none_of nD)
  have rx : Rp X.K (ρ1 ++ [s1.heap.objs.size + 1]) (upd G1 s1.heap.objs.size (.own (s1.heap.objs.size + 1))) (.ref M1.length) (.ref (s1.heap.objs.size + 1)) :=
    .ref (by rw [← s2.wf.len, List.getElem?_append_right (Nat.le_refl _)]; simp)
  have rs' := rs.mono gs (Pre.push ρ1 (s1.heap.objs.size + 1))
  have hn : (D.ref M1.length :: ds).length = n := Classical.byContradiction fun z => by
    unfold mkF at h1
    rw [hgn _ _ z] at h1
    exact h1
  have hvl : (V.ref (s1.heap.objs.size + 1) :: vs).length = n := by
    rw [← hn, List.length_cons, List.length_cons, rs.length]
  have sp : spD nm X.K n g (V.ref (s1.heap.objs.size + 1) :: vs) (upd (upd H1 s1.heap.objs.size (.own (s1.heap.objs.size + 1))) (s1.heap.objs.size + 1) (.ins (nm.cls cn) s1.heap.objs.size []))
      (fun v H2 => v = .non ∧ Q (.ref (s1.heap.objs.size + 1)) H2) (fun cls d H' => W cls d σ H') := by
    refine ⟨hvl, _, _, _, _, w4, .cons rx rs', ?_⟩
    unfold mkF at h1
    cases q : g (.ref M1.length :: ds) (M1 ++ [.ins cn []]) with
    | bad => rw [q] at h1; exact h1
    | ok d M2 =>
      rw [q] at h1
      intro v H' G' ρ' kp wf rd
      cases d with
      | non =>
        cases rd
        exact ⟨rfl, h1 _ H' G' ρ' (gs.trans (kp.grows w4.sub)) ((Pre.push _ _).trans kp.pre) (s4.step kp wf) (.ref (kp.pre _ _ (by rw [← s2.wf.len, List.getElem?_append_right (Nat.le_refl _)]; simp)))⟩
      | _ => exact h1.elim
    | err c fv M2 =>
      rw [q] at h1
      exact fun H' G' ρ' dx kp wf er => h1 σ H' G' ρ' dx (gs.trans (kp.grows w4.sub)) ((Pre.push _ _).trans kp.pre) (s4.step kp wf) er
  have I2 := Inv.made (C := nm.cls cn) I1
  have r2 : Vals (V.ref (s1.heap.objs.size + 1) :: vs) (Value.ref (s1.heap.objs.size + 1) :: us) := .cons rfl rv
  have hl : (Value.ref (s1.heap.objs.size + 1) :: us ++ []).length = ps.length := by
    have e := F.len _ _ _ _ sp
    rw [List.append_nil, ← r2.length]; exact e
  have bd := hb _ (Value.ref (s1.heap.objs.size + 1) :: us) I2.kIn hl
  rw [List.append_nil] at bd
  refine wpAny_call (make_map (f := f) I1.kIn Mc.makes Mc.init (beq_iff_eq.mp Mc.fn) (codeAny_mono (F.run _ X.stack _ _ _ _ _ _ _ (hr.make (nm.cls cn) us []) (fun z => absurd z (by decide)) (I2.env0.make (nm.cls cn) us []) bd r2 sp) fun r s' hq' => ?_))
  match r, hq' with
  | .error er, hq' => exact tk er s' (XE.of_call I2 (fun _ _ _ h => h) hq')
  | .ok (.ret u), hq' =>
    obtain ⟨v, H', I3, rv', ev, q3⟩ := I2.after hq'
    subst ev
    exact ⟨rv', ⟨V.ref (s1.heap.objs.size + 1), H', I3, rfl, q3⟩⟩
  | .ok .next, hq' => exact hq'.elim
  | .ok .brk, hq' => exact hq'.elim
  | .ok .cont, hq' => exact hq'.elim
theorem sE_mk {cn k n : Nat} {x : Str} {p : Pos} {f : Addr} {fd : FuncData} {ps : List Str} {g : List D → List MO → CO} (Mc : Mk X.K (nm.cls cn) f) (F : FnG false X.prog X.w X.K X.mg X.base k f fd ps (spD nm X.K n g)) (hr : Room (k + 1) X.A) (tk : Takes X W) (hb : Binds X.K fd ps [])
    (hgn : ∀ ds M, ds.length ≠ n → g ds M = .bad) (hg : Gl X x) (hm : X.mg x = some (.ref (nm.cls cn))) (hdb : (x == ("__debug__" : Str)) = false) (hx : PA X (a :: es) (tA nm X.K W ga)) (he : starEach (a :: es) X.env = (false, eval a X.env) :: starEach es X.env) (hpl : (backTo pos (starEach es X.env)).any (·.1) = false) :
    PE X (.Call (.Name x p) (a :: es) [] pos) (tE nm X.K W fun e M => (ga e M).bind fun ds e M => mkF g cn ds e M) := by
  refine ⟨fun pins s σ H Q I ⟨fr, ρ, G, e, M, r, h⟩ => ?_⟩
  refine wpAny_Call_Name_kw (ld_glob I hg hm ?_ hdb)
  refine PySem.W.callWith_K (h₀ := X.base) I.ok.mod.kin Mc.kp (thn (hx.run pos pins s σ H (fun vs H1 => ∃ ρ1 G1 e1 M1 ds, SR nm X.K fr ρ1 G1 e1 M1 σ H1 ∧ Rps X.K ρ1 G1 ds vs ∧ pG nm X.K fr W (gdE nm X.K fr σ Q) ρ1 G1 (mkF g cn ds e1 M1)) I
    (tA.bind gdE_mono r h fun ρ1 G1 e1 M1 ds vs H1 g1 p1 s2 r1 h1 => ⟨ρ1, G1, e1, M1, ds, s2, r1, h1⟩)) fun us s1 ⟨vs, H1, I1, rv, ρ1, G1, e1, M1, ds, s2, r1, h1⟩ => ⟨I1.kIn, ?_⟩) he hpl
  exact make_fin Mc F hr tk hb hgn I1 rv s2 r1 h1
end
end PM

namespace PM
open PySem PySem.Spec PyProof.Rows L2

def isOwnAt (i : Nat) (e : Ev) : Bool := match e[i]? with
  | some (.own _) => true
  | _ => false
def appF (i : Nat) (d : D) (e : Ev) (M : List MO) : Out Fl := match e[i]? with
  | some (.own xs) => if xs.length < lim then .ok .nx (e.set i (.own (xs ++ [d]))) M else .bad
  | _ => .bad
def extF (i : Nat) (d : D) (e : Ev) (M : List MO) : Out Fl := match e[i]?, d with
  | some (.own xs), .lst ys => if xs.length + ys.length ≤ lim then .ok .nx (e.set i (.own (xs ++ ys))) M else .bad
  | _, _ => .bad
def isML (x : D) (M : List MO) : Bool := match x with
  | .ref j => match M[j]? with
    | some (.lst _) => true
    | _ => false
  | _ => false
def mappF (x d : D) (e : Ev) (M : List MO) : Out Fl := match x with
  | .ref j => match M[j]? with
    | some (.lst xs) => if xs.length < lim then .ok .nx e (M.set j (.lst (xs ++ [d]))) else .bad
    | _ => .bad
  | _ => .bad
def mpopF (x : D) (e : Ev) (M : List MO) : Out D := match x with
  | .ref j => match M[j]? with
    | some (.lst xs) => match xs[xs.length - 1]? with
      | some d => .ok d e (M.set j (.lst xs.dropLast))
      | none => .bad
    | _ => .bad
  | _ => .bad
theorem Rps.dropLast {K : Frg} {ρ : List Addr} {G : Hp} {ds : List D} {vs : List V} (r : Rps K ρ G ds vs) : Rps K ρ G ds.dropLast vs.dropLast := by
  rw [List.dropLast_eq_take, List.dropLast_eq_take, r.length]
  exact r.take _
section
variable {X : Cx} {nm : Nm} {W : WX} {pos : Pos} {a b c o : Expr} {es : List Expr} {fa fb fo : Ev → List MO → Out D} {ga : Ev → List MO → Out (List D)}
/-- x.append(..), x.extend(..) of a list of one's own -/
theorem own_mt {i : Nat} {x : Str} {px apos : Pos} {name : Str} {id : String} {r : V → List V → Hp → VK → Prop} {F : D → Ev → List MO → Out Fl} (slot : Slot "list" name id) (hty : typeOf (.builtin id) = pure (.type "method_descriptor")) (hm : MtR X id r)
    (hstep : ∀ {fr : Fr} {ρ : List Addr} {G H : Hp} {e : Ev} {M : List MO} {σ : L2.St} {E : Ends} {p : Addr} {d : D} {v : V}, SR nm X.K fr ρ G e M σ H → σ[i]? = some (some (.ref p)) → Rp X.K ρ G d v → pG nm X.K fr W (gdS nm X.K fr E) ρ G (F d e M) → r (.ref p) [v] H fun _ H' => E.nx σ H')
    (hN : X.N[i]? = some x) (hv : Vis X.env.scope x) (hd : (x == ("__debug__" : Str)) = false) (hc : (x == ("__classdict__" : Str)) = false) (ha : PE X a (tE nm X.K W fa))
    (hbase : attributeBase (.Name x px) name X.env (eval (.Name x px) X.env) = eval (.Name x px) X.env) (hfew : ((backTo pos (starEach [a] X.env)).all (fun x => !x.1) && (backToKw pos (keywordEach [] X.env)).all (fun x => x.1.isSome)
      && decide ([a].length + ([] : List Keyword).length + (if ([] : List Keyword).isEmpty then 0 else 1) < 30)) = true) (hline : (apos.endLine == pos.line) = true) (hs : starEach [a] X.env = (false, eval a X.env) :: starEach [] X.env)
    (hsw : swapsWith (.Call (.Attribute (.Name x px) name apos) [a] [] pos) none pos.line X.env = pure false) :
    PS X (.Expr (.Call (.Attribute (.Name x px) name apos) [a] [] pos) pos) (tS nm X.K W fun e M => if isOwnAt i e then (fa e M).bind fun d e M => F d e M else .bad) := by
  refine (ps_expr (pe_bm PySem.F.plainAttrs_list slot hty hm (pe_var hN hv hd hc) (pa_cons ha pa_nil hs) hbase hfew hline hs (by rfl)) hsw).imp fun E σ H ⟨fr, ρ, G, e, M, s, h⟩ => ?_
  simp only [] at h
  split at h
  · rename_i hown
    unfold isOwnAt at hown
    cases q : e[i]? with
    | none => rw [q] at hown; cases hown
    | some sl =>
      rw [q] at hown
      cases sl with
      | own xs =>
        obtain ⟨p, vs, k1, k2, k3, k4, k5, k6⟩ := s.owns i xs q
        refine ⟨_, k1, .inl ⟨rfl, vs, .inl (.inl k5)⟩, ?_⟩
        refine tE.bind gdS_mono s h fun ρ1 G1 e1 M1 d v H1 g1 p1 s1 r1 h1 => ?_
        exact hstep s1 k1 r1 h1
      | val _ => cases hown
      | non => cases hown
  · exact h.elim
theorem app_step {i : Nat} {fr : Fr} {ρ : List Addr} {G H : Hp} {e : Ev} {M : List MO} {σ : L2.St} {E : Ends} {p : Addr} {d : D} {v : V} (s : SR nm X.K fr ρ G e M σ H) (hp : σ[i]? = some (some (.ref p))) (rd : Rp X.K ρ G d v) (h : pG nm X.K fr W (gdS nm X.K fr E) ρ G (appF i d e M)) :
    rAppend (.ref p) [v] H fun _ H' => E.nx σ H' := by
  unfold appF at h
  cases q : e[i]? with
  | none => rw [q] at h; exact h.elim
  | some sl =>
    rw [q] at h
    cases sl with
    | own xs =>
      simp only at h
      split at h
      · rename_i hl
        obtain ⟨p', vs, k1, k2, k3, k4, k5, k6⟩ := s.owns i xs q
        rw [hp] at k1; cases k1
        exact ⟨p, vs, v, rfl, rfl, k5, by rw [← k6.length]; exact Nat.lt_trans hl lim_lt, h σ _ G ρ (Same.refl _) (Pre.refl _) (s.writeOwn q hp (k6.append (.cons rd .nil)))⟩
      · exact h.elim
    | val _ => exact h.elim
    | non => exact h.elim
theorem ext_step {i : Nat} {fr : Fr} {ρ : List Addr} {G H : Hp} {e : Ev} {M : List MO} {σ : L2.St} {E : Ends} {p : Addr} {d : D} {v : V} (s : SR nm X.K fr ρ G e M σ H) (hp : σ[i]? = some (some (.ref p))) (rd : Rp X.K ρ G d v) (h : pG nm X.K fr W (gdS nm X.K fr E) ρ G (extF i d e M)) :
    rExtend (.ref p) [v] H fun _ H' => E.nx σ H' := by
  unfold extF at h
  cases q : e[i]? with
  | none => rw [q] at h; exact h.elim
  | some sl =>
    rw [q] at h
    cases sl with
    | own xs =>
      cases rd with
      | @lst b ys ws sq rs =>
        simp only at h
        split at h
        · rename_i hl
          obtain ⟨p', vs, k1, k2, k3, k4, k5, k6⟩ := s.owns i xs q
          rw [hp] at k1; cases k1
          exact ⟨p, b, vs, ws, rfl, rfl, k5, s.wf.sub _ _ sq, by rw [← k6.length, ← rs.length]; exact Nat.le_trans hl lim_line, h σ _ G ρ (Same.refl _) (Pre.refl _) (s.writeOwn q hp (k6.append rs))⟩
        · exact h.elim
      | _ => exact h.elim
    | val _ => cases rd <;> exact h.elim
    | non => cases rd <;> exact h.elim
/-- o.append(e), o a list of the store -/
theorem sS_mapp {apos : Pos} (ho : PE X o (tE nm X.K W fo)) (ha : PE X a (tE nm X.K W fa))
    (hbase : attributeBase o "append" X.env (eval o X.env) = eval o X.env) (hfew : ((backTo pos (starEach [a] X.env)).all (fun x => !x.1) && (backToKw pos (keywordEach [] X.env)).all (fun x => x.1.isSome)
      && decide ([a].length + ([] : List Keyword).length + (if ([] : List Keyword).isEmpty then 0 else 1) < 30)) = true) (hline : (apos.endLine == pos.line) = true) (hs : starEach [a] X.env = (false, eval a X.env) :: starEach [] X.env)
    (hsw : swapsWith (.Call (.Attribute o "append" apos) [a] [] pos) none pos.line X.env = pure false) :
    PS X (.Expr (.Call (.Attribute o "append" apos) [a] [] pos) pos) (tS nm X.K W fun e M => (fo e M).bind fun x e M => if isML x M then (fa e M).bind fun d e M => mappF x d e M else .bad) := by
  refine (ps_expr (pe_bm PySem.F.plainAttrs_list PySem.F.slot_list_append PySem.F.type_list_append mt_append ho (pa_cons ha pa_nil hs) hbase hfew hline hs (by rfl)) hsw).imp fun E σ H ⟨fr, ρ, G, e, M, s, h⟩ => ?_
  refine tE.bind gdS_mono s h fun ρ1 G1 e1 M1 x v H1 g1 p1 s1 r1 h1 => ?_
  split at h1
  · rename_i hml
    cases r1 with
    | @ref p j ej =>
      refine ⟨?_, ?_⟩
      · simp only [isML] at hml
        cases hm : M1[j]? with
        | none => rw [hm] at hml; cases hml
        | some m =>
          rw [hm] at hml
          cases m with
          | lst xs =>
            obtain ⟨vs, k1, k2⟩ := s1.wf.obj _ _ _ hm ej
            exact .inl ⟨rfl, vs, .inl (.inl k1)⟩
          | ins _ _ => cases hml
          | dead => cases hml
      · refine tE.bind gdS_mono s1 h1 fun ρ2 G2 e2 M2 d w H2 g2 p2 s2 r2 h2 => ?_
        have ej' := p2 _ _ ej
        unfold mappF at h2
        simp only at h2
        cases hm : M2[j]? with
        | none => rw [hm] at h2; exact h2.elim
        | some m =>
          rw [hm] at h2
          cases m with
          | lst xs =>
            simp only at h2
            split at h2
            · rename_i hl
              obtain ⟨vs, k1, k2⟩ := s2.wf.obj _ _ _ hm ej'
              exact ⟨p, vs, w, rfl, rfl, k1, by rw [← k2.length]; exact Nat.lt_trans hl lim_lt, h2 σ _ G2 ρ2 (Same.refl _) (Pre.refl _) (s2.step (Kp.write (List.mem_of_getElem? ej') _)
                (s2.wf.write (m := .lst (xs ++ [d])) ej' (fun H' hH => ⟨_, hH, k2.append (.cons r2 .nil)⟩) (Soft.lst k1) (fun _ z => by cases z)))⟩
            · exact h2.elim
          | ins _ _ => exact h2.elim
          | dead => exact h2.elim
    | _ => cases hml
  · exact h1.elim
/-- o.pop(), o a list of the store -/
theorem sE_mpop {apos : Pos} (ho : PE X o (tE nm X.K W fo)) (hbase : attributeBase o "pop" X.env (eval o X.env) = eval o X.env) (hline : (apos.endLine == pos.line) = true) :
    PE X (.Call (.Attribute o "pop" apos) [] [] pos) (tE nm X.K W fun e M => (fo e M).bind fun x e M => mpopF x e M) := by
  refine (pe_bm0 PySem.F.plainAttrs_list PySem.F.slot_list_pop PySem.F.type_list_pop mt_pop ho hbase hline).imp fun σ H Q ⟨fr, ρ, G, e, M, s, h⟩ => ?_
  refine tE.bind gdE_mono s h fun ρ1 G1 e1 M1 x v H1 g1 p1 s1 r1 h1 => ?_
  unfold mpopF at h1
  cases r1 with
  | @ref p j ej =>
    simp only at h1
    cases hm : M1[j]? with
    | none => rw [hm] at h1; exact h1.elim
    | some m =>
      rw [hm] at h1
      cases m with
      | lst xs =>
        simp only at h1
        obtain ⟨vs, k1, k2⟩ := s1.wf.obj _ _ _ hm ej
        cases hl : xs[xs.length - 1]? with
        | none => rw [hl] at h1; exact h1.elim
        | some d =>
          rw [hl] at h1
          obtain ⟨w, h3, h4⟩ := k2.get hl
          refine ⟨.inl ⟨rfl, vs, .inl (.inl k1)⟩, p, vs, w, rfl, rfl, k1, by rw [← k2.length]; exact h3, ?_⟩
          exact h1 w _ G1 ρ1 (Same.refl _) (Pre.refl _) (s1.step (Kp.write (List.mem_of_getElem? ej) _) (s1.wf.write (m := .lst xs.dropLast) ej (fun H' hH => ⟨_, hH, k2.dropLast⟩) (Soft.lst k1) (fun _ z => by cases z))) h4
      | ins _ _ => exact h1.elim
      | dead => exact h1.elim
  | _ => exact h1.elim

/-! ### raise -/
/-- what an error's own __init__(self, x): self.f = x keeps -/
def spOI (C : Addr) (f : Str) : Sp := fun vs H Q _ => ∃ a y, vs = [.ref a, y] ∧ H a = some (exo a C none) ∧ ∀ dx, H dx = none → dx ≠ a → Q .non (upd (upd H dx (exd dx [(f, y)])) a (exo a C (some dx)))
theorem oinit {P : Program} {w : World} {K : Frg} {mg : Str → Option Value} {base : Heap} {k : Nat} {fI C : Addr} {name qual f s1 x1 : Str} {params : Arguments} {p1 p2 p3 p4 : Pos} {scope : Scope} {dV kV doc pm cdv ct oc : Value} {an od : Option Addr}
    {osl : Array (Option Value)} (T : OexC K C) (hf : PySem.W.findIn K (.ref C) f = some none) (lk : K.lookup fI = some ⟨oc, od, .func (PySem.W.fnOf name qual params [.Assign [.Attribute (.Name s1 p1) f p2] (.Name x1 p3) p4] scope dV kV doc pm an cdv ct), osl⟩) (hcd : PySem.W.codeIn K cdv qual = true)
    (S : FnScope [s1, x1] [s1, x1] scope) (hv1 : Vis scope s1) (hv2 : Vis scope x1) (d1 : (s1 == ("__debug__" : Str)) = false) (d2 : (s1 == ("__classdict__" : Str)) = false) (d3 : (x1 == ("__debug__" : Str)) = false) (d4 : (x1 == ("__classdict__" : Str)) = false)
    (hs : ∀ env : Env, env.scope = scope → swapsWith (.Name x1 p3) (some (.Attribute (.Name s1 p1) f p2)) p4.line env = pure false) :
    FnOk P w K mg base (L2.CX P w) (k + 1) fI (PySem.W.fnOf name qual params [.Assign [.Attribute (.Name s1 p1) f p2] (.Name x1 p3) p4] scope dV kV doc pm an cdv ct) [s1, x1] (spOI C f) := by
  refine fn_of lk hcd S (fun vs H Q E ⟨a, y, e, _⟩ => by rw [e]; rfl) fun A outer s H vs Q E hr ⟨a, y, ev, ha, hq⟩ => ?_
  subst ev
  refine ⟨_, pss_one (ps_ost (pe_var (i := 0) rfl hv1 d1 d2) (pe_var (i := 1) rfl hv2 d3 d4) (hs _ rfl)), ?_⟩
  exact ⟨y, rfl, .ref a, rfl, a, C, rfl, T, hf, .inl ⟨ha, fun dx n ne => hq dx n ne⟩⟩
/-- raise C(e) -/
theorem sS_raise {k f cn : Nat} {x : Str} {p pc : Pos} {fI : Addr} {fd : FuncData} {ps : List Str} (gx : GX X) (tk : Takes X W) (T : OexC X.K (nm.exc cn)) (iC : PySem.W.findIn X.K (.ref (nm.exc cn)) "__init__" = some (some (.ref fI))) (tI : PySem.W.typeIn X.K (.ref fI) = some (.type "function"))
    (F1 : FnOk X.prog X.w X.K X.mg X.base (L2.CX X.prog X.w) k fI fd ps (spOI (nm.exc cn) (nm.fld f))) (hr : Room (k + 1) X.A) (hb : Binds X.K fd ps []) (hg : Gl X x) (hm : X.mg x = some (.ref (nm.exc cn))) (ha : PE X a (tE nm X.K W fa))
    (hdb : (x == ("__debug__" : Str)) = false) (he : starEach [a] X.env = (false, eval a X.env) :: starEach [] X.env) (hx0 : Passes (L2.CX X.prog X.w) X (fun _ _ _ => False)) :
    PS X (.Raise (some (.Call (.Name x p) [a] [] pc)) none pos) (tS nm X.K W fun e M => (fa e M).bind fun d e M => .err cn (some (f, d)) e M) := by
  refine (ps_raise gx.calm tk (pmk_oex (ds := []) (dvs := []) T iC tI F1 hr hb .nil hx0 hg hm (pa_cons ha pa_nil he) hdb he (by rfl))).imp fun E σ H ⟨fr, ρ, G, e, M, s, h⟩ => ?_
  show tCons _ _ σ H _
  refine tE.bind gdS_mono s h fun ρ1 G1 e1 M1 d v H1 g1 p1 s1 r1 h1 => ⟨by simp, fun b hb => ?_⟩
  refine ⟨b, v, rfl, upd_same, fun dx hdx hne => ⟨rfl, dx, [(nm.fld f, v)], upd_same, ?_, ?_, ?_⟩⟩
  · rw [upd_ne hne, upd_same]
  · rw [upd_ne hne] at hdx; exact hdx
  · have hdx' : H1 dx = none := by rw [upd_ne hne] at hdx; exact hdx
    have e1 : upd (del (upd (upd (upd H1 b (exo b (nm.exc cn) none)) dx (exd dx [(nm.fld f, v)])) b (exo b (nm.exc cn) (some dx))) b) dx (.xd [(nm.fld f, v)]) = upd H1 dx (.xd [(nm.fld f, v)]) := by
      funext z
      by_cases hz : z = dx
      · subst hz; rw [upd_same, upd_same]
      · rw [upd_ne hz, upd_ne hz]
        by_cases hzb : z = b
        · subst hzb; rw [del_same, hb]
        · rw [del_ne hzb, upd_ne hzb, upd_ne hz, upd_ne hzb]
    rw [e1]
    have s2 := s1.alloc hdx' (.xd [(nm.fld f, v)])
    exact h1 σ _ _ ρ1 (some dx) (Same.upd (s1.wf.none_of hdx')) (Pre.refl _) s2 ⟨dx, v, rfl, upd_same, r1.mono (Same.upd (s1.wf.none_of hdx')) (Pre.refl _)⟩
end
end PM

namespace PM
open PySem PySem.Spec PyProof.Rows L2

def tyV' : Ty → Option String
  | .int => some "int"
  | .bool => some "bool"
  | .str => some "str"
  | .tuple => some "tuple"
  | .list => some "list"
  | .own _ => none
/-- what isinstance asks of an own class -/
structure InsC (K : Frg) (C : Addr) : Prop where
  cl : Cls K C
  ha : PySem.W.findIn K (.ref C) "__class__" = some (some (.builtin "object.__class__"))
  hn : PySem.W.specialIn K (.builtin "object.__class__") "__get__" = some (some (.builtin "getset_descriptor.__get__"))
  htk : PySem.W.takesIn K (.builtin "object.__class__") = some true
  hm : PySem.W.mroIn K C (.type "object") = some true
/-- a class that isinstance asks for: cu -/
structure TyG (nm : Nm) (K : Frg) (ty : Ty) (cu : Value) : Prop where
  bt : ∀ T ∈ ["NoneType", "bool", "int", "str", "tuple", "list"], PySem.W.kitOne K (.type T) cu = some (isiB T ty)
  own : ∀ k, InsC K (nm.cls k) ∧ match ty with | .own c => PySem.W.kitOne K (.ref (nm.cls c)) cu = some true | _ => PySem.W.kitOne K (.ref (nm.cls k)) cu = some false
theorem isi_ok {nm : Nm} {K : Frg} {ρ : List Addr} {G H : Hp} {M : List MO} {d : D} {v : V} {ty : Ty} {cu : Value} {b : Bool} (w : Wf nm K ρ G M H) (g : TyG nm K ty cu) (r : Rp K ρ G d v) (h : isiD d ty M = some b) : ∃ t, TyX K H v t ∧ PySem.W.kitOne K t cu = some b := by
  have bt := g.bt
  unfold isiD at h
  cases r with
  | non => cases h; exact ⟨_, .base .non, bt _ (by simp)⟩
  | bl x => cases h; exact ⟨_, .base (.bl x), bt _ (by simp)⟩
  | int x => cases h; exact ⟨_, .base (.int x), bt _ (by simp)⟩
  | str x => cases h; exact ⟨_, .base (.str x), bt _ (by simp)⟩
  | tup s r => cases h; exact ⟨_, .base (.tup (w.sub _ _ s)), bt _ (by simp)⟩
  | lst s r => cases h; exact ⟨_, .base (.lst (w.sub _ _ s)), bt _ (by simp)⟩
  | dic _ _ _ => cases h
  | scr _ => cases h
  | exc _ _ _ => cases h
  | exb _ => cases h
  | dcs _ _ => cases h
  | @ref p i ei =>
    simp only [tyN, insOf] at h
    cases hm : M[i]? with
    | none => rw [hm] at h; cases h
    | some o =>
      rw [hm] at h
      cases o with
      | ins k fs =>
        obtain ⟨dx, q, k1, k2⟩ := w.obj _ _ _ hm ei
        obtain ⟨c, hk⟩ := g.own k
        refine ⟨_, .base (.ins k1 c.cl c.ha c.hn c.htk c.hm), ?_⟩
        cases ty with
        | own c' =>
          simp only at h hk
          split at h
          · rename_i e
            cases h
            rw [e]; exact hk
          · cases h
        | _ => simp only at h hk; cases h; exact hk
      | lst _ => cases h
      | dead => cases h
section
variable {X : Cx} {nm : Nm} {W : WX} {pos : Pos} {a b c o : Expr} {es : List Expr} {fa fb fo : Ev → List MO → Out D} {ga : Ev → List MO → Out (List D)}
theorem sE_isi {t : Expr} {cv : V} {cu : Value} {ty : Ty} {p : Pos} (ha : PE X a (tE nm X.K W fa)) (hc : PE X t (tC cv)) (kv : ClsV cv cu) (g : TyG nm X.K ty cu) (hg : Gl X "isinstance") (hm : X.mg "isinstance" = none)
    (he1 : starEach [a, t] X.env = (false, eval a X.env) :: starEach [t] X.env) (he2 : starEach [t] X.env = (false, eval t X.env) :: starEach [] X.env) (hpl : (backTo pos (starEach [t] X.env)).any (·.1) = false) :
    PE X (.Call (.Name "isinstance" p) [a, t] [] pos) (tE nm X.K W fun e M => (fa e M).bind fun x e M => lift ((isiD x ty M).map .bl) e M) := by
  refine (pe_callB call_isi hg hm rfl (pa_cons ha (pa_cons hc pa_nil he2) he1) (by decide) (by decide) he1 hpl).imp fun σ H Q ⟨fr, ρ, G, e, M, s, h⟩ => ?_
  show tCons _ _ σ H _
  refine tE.bind gdE_mono s h fun ρ1 G1 e1 M1 d v H1 g1 p1 s1 r1 h1 => ?_
  cases q : isiD d ty M1 with
  | none => rw [q] at h1; exact h1.elim
  | some k =>
    rw [q] at h1
    obtain ⟨t', k1, k2⟩ := isi_ok s1.wf g r1 q
    exact ⟨v, cv, t', cu, k, rfl, kv, k1, k2, h1 _ H1 G1 ρ1 (Same.refl _) (Pre.refl _) s1 (.bl _)⟩

/-! ### tables of the module, with text keys -/
/-- the table at d, its values by key -/
structure TbS (K : Frg) (w : World) (d : Addr) (tb : Str → Option Int) : Prop where
  kd : ∃ es n, KDict K w d es n
  ns : ∀ z, ∃ r, PySem.W.nsIn K d z = some r ∧ (∀ i, tb z = some i → ∃ u, r = some u ∧ RelV (.int i) u) ∧ (tb z = none → r = none)
theorem sE_inK {x : Str} {p : Pos} {d : Addr} {tb : Str → Option Int} (ha : PE X a (tE nm X.K W fa)) (hg : Gl X x) (hm : X.mg x = some (.ref d)) (hdb : (x == ("__debug__" : Str)) = false) (T : TbS X.K X.w d tb) (hmk : behindInMarks .In (.Name x p) = false) :
    PE X (.Compare a [.In] [.Name x p] pos) (tE nm X.K W fun e M => (fa e M).bind fun d e M => match d with | .str z => .ok (.bl (tb z).isSome) e M | _ => .bad) := by
  obtain ⟨es, n, kd⟩ := T.kd
  refine (pe_cmpR (op_in_kd kd) ha (pe_glob hg hm (show RelV (.ref d) (.ref d) from rfl) hdb) hmk).imp fun σ H Q ⟨fr, ρ, G, e, M, s, h⟩ => ?_
  refine tE.bind gdE_mono s h fun ρ1 G1 e1 M1 x v H1 g1 p1 s1 r1 h1 => ?_
  cases r1 with
  | str z =>
    obtain ⟨r, k1, k2, k3⟩ := T.ns z
    refine ⟨z, r, rfl, rfl, k1, ?_⟩
    have e1 : r.isSome = (tb z).isSome := by
      cases q : tb z with
      | none => rw [k3 q]; rfl
      | some i => obtain ⟨u, hu, _⟩ := k2 i q; rw [hu]; rfl
    rw [e1]
    exact h1 _ H1 G1 ρ1 (Same.refl _) (Pre.refl _) s1 (.bl _)
  | _ => exact h1.elim
theorem sE_getK {x : Str} {p : Pos} {d : Addr} {tb : Str → Option Int} (ha : PE X a (tE nm X.K W fa)) (hg : Gl X x) (hm : X.mg x = some (.ref d)) (hdb : (x == ("__debug__" : Str)) = false) (T : TbS X.K X.w d tb) (hs : PlainIx a) :
    PE X (.Subscript (.Name x p) a pos) (tE nm X.K W fun e M => (fa e M).bind fun d e M => match d with | .str z => lift ((tb z).map .int) e M | _ => .bad) := by
  obtain ⟨es, n, kd⟩ := T.kd
  refine (pe_ix ix_kdict (pe_glob hg hm (show RelV (.ref d) (.ref d) from rfl) hdb) ha hs).imp fun σ H Q ⟨fr, ρ, G, e, M, s, h⟩ => ?_
  refine tE.bind gdE_mono s h fun ρ1 G1 e1 M1 x v H1 g1 p1 s1 r1 h1 => ?_
  cases r1 with
  | str z =>
    obtain ⟨r, k1, k2, k3⟩ := T.ns z
    simp only at h1
    cases q : tb z with
    | none => rw [q] at h1; exact h1.elim
    | some i =>
      rw [q] at h1
      obtain ⟨u, hu, ru⟩ := k2 i q
      subst hu
      exact ⟨d, z, .int i, rfl, rfl, ⟨es, n, u, kd.at_, kd.lit, k1, ru⟩, h1 _ H1 G1 ρ1 (Same.refl _) (Pre.refl _) s1 (.int _)⟩
  | _ => exact h1.elim
end
/-! ### tables of the module, with int keys -/
def entI : List DictEntry → List (Int × Int) → Bool
  | [], [] => true
  | e :: r, p :: q => (match e.key with | .int i _ => i == p.1 | _ => false) && e.hash == hashInt p.1 && (match e.val with | .int i _ => i == p.2 | _ => false) && entI r q
  | _, _ => false
structure TbI (K : Frg) (d : Addr) (kvs : List (Int × Int)) : Prop where
  at_ : ∃ es n, K.lookup d = some ⟨.type "dict", none, .dict es n, #[]⟩ ∧ entI es.toList kvs = true
  low : (d == sysModules) = false
theorem entI_find : ∀ {l : List DictEntry} {kvs : List (Int × Int)} (k : Int), entI l kvs = true → (∀ v, kvs.lookup k = some v → ∃ e t, l.find? (fun e => Value.isInt k e.key) = some e ∧ e.val = .int v t) ∧ (kvs.lookup k = none → l.find? (fun e => Value.isInt k e.key) = none)
  | [], [], k, _ => ⟨fun v h => by simp at h, fun _ => rfl⟩
  | [], _ :: _, k, h => by simp [entI] at h
  | _ :: _, [], k, h => by simp [entI] at h
  | e :: r, (k0, v0) :: q, k, h => by
    simp only [entI, Bool.and_eq_true] at h
    obtain ⟨⟨⟨h1, h2⟩, h3⟩, h4⟩ := h
    obtain ⟨i1, i2⟩ := entI_find k h4
    cases hk : e.key with
    | int i t =>
      rw [hk] at h1
      have h1 : i = k0 := by simpa using h1
      subst h1
      by_cases e1 : k = i
      · subst e1
        have f1 : (e :: r).find? (fun e => Value.isInt k e.key) = some e := by
          rw [List.find?_cons_of_pos]
          rw [hk]; simp [Value.isInt]
        refine ⟨fun v hv => ?_, fun hv => ?_⟩
        · simp [List.lookup] at hv
          subst hv
          cases hval : e.val with
          | int j t' =>
            rw [hval] at h3
            have : j = v0 := by simpa using h3
            subst this
            exact ⟨e, t', f1, hval⟩
          | _ => rw [hval] at h3; simp at h3
        · simp [List.lookup] at hv
      · have f1 : (e :: r).find? (fun e => Value.isInt k e.key) = r.find? (fun e => Value.isInt k e.key) := by
          rw [List.find?_cons_of_neg]
          rw [hk]; simp [Value.isInt, Ne.symm e1]
        have l1 : ((i, v0) :: q).lookup k = q.lookup k := by
          have : (k == i) = false := by simpa using e1
          simp [List.lookup, this]
        rw [f1, l1]
        exact ⟨i1, i2⟩
    | _ => rw [hk] at h1; simp at h1
theorem entI_keys {P : Program} {w : World} : ∀ {l : List DictEntry} {kvs : List (Int × Int)}, entI l kvs = true → ∀ e ∈ l, ∃ k, (intKind P w).is k e.key = true ∧ e.hash = (intKind P w).hash k
  | [], _, _, e, m => by cases m
  | e :: r, [], h, _, _ => by simp [entI] at h
  | e :: r, (k0, v0) :: q, h, e', m => by
    simp only [entI, Bool.and_eq_true] at h
    obtain ⟨⟨⟨h1, h2⟩, h3⟩, h4⟩ := h
    rcases List.mem_cons.mp m with rfl | m
    · refine ⟨k0, ?_, by simpa [intKind] using h2⟩
      cases hk : e'.key with
      | int i t =>
        rw [hk] at h1
        simpa [intKind, Value.isInt] using h1
      | _ => rw [hk] at h1; simp at h1
    · exact entI_keys h4 e' m
theorem tbI_map {X : Cx} {pins : List (Addr × Obj)} {σ : L2.St} {H : Hp} {s : Shared} {d : Addr} {kvs : List (Int × Int)} (I : Inv X pins σ H s) (T : TbI X.K d kvs) :
    ∃ f, s.heap.MapOf (intKind X.prog X.w) d f ∧ ∀ k, (∀ v, kvs.lookup k = some v → ∃ t, f k = some (.int v t)) ∧ (kvs.lookup k = none → f k = none) := by
  obtain ⟨es, n, hl, he⟩ := T.at_
  refine ⟨fun k => findBy (intKind X.prog X.w).is es k, ⟨_, es, n, I.kIn _ _ hl, ⟨rfl, rfl, rfl⟩, rfl, fun e hm => entI_keys he e (Array.mem_toList_iff.mpr hm), fun _ => rfl⟩, fun k => ?_⟩
  obtain ⟨i1, i2⟩ := entI_find k he
  have fe : findBy (intKind X.prog X.w).is es k = (es.toList.find? fun e => Value.isInt k e.key).map (·.val) := by
    obtain ⟨l⟩ := es
    simp [findBy, intKind]
  refine ⟨fun v hv => ?_, fun hv => ?_⟩
  · obtain ⟨e, t, h1, h2⟩ := i1 v hv
    exact ⟨t, by show findBy (intKind X.prog X.w).is es k = _; rw [fe, h1]; simp [h2]⟩
  · show findBy (intKind X.prog X.w).is es k = _
    rw [fe, i2 hv]; rfl
section
variable {X : Cx} {nm : Nm} {W : WX} {pos : Pos} {a b c o : Expr} {fa : Ev → List MO → Out D}
def rIxI (K : Frg) : R2 := fun x y H Q => ∃ d kvs i v, x = .ref d ∧ y = .int i ∧ TbI K d kvs ∧ kvs.lookup i = some v ∧ Q (.int v) H
theorem ix_kdI : IxR X (rIxI X.K) := by
  intro value slice pins s σ H x y v u Q I rx ry h hs
  obtain ⟨d, kvs, i, r, rfl, rfl, T, hl, q⟩ := h
  obtain rfl : v = Value.ref d := rx
  obtain ⟨t, rfl⟩ := ry
  obtain ⟨f, hm, hf⟩ := tbI_map I T
  obtain ⟨t', ht'⟩ := (hf i).1 r hl
  exact tail_any hm.typeIs PySem.F.slot_dict_getitem.lookup (wpAny_getItem_of (by show Value.isInt i (.int i t) = true; simp [Value.isInt]) hm ht' ⟨.int r, H, I.tok _, ⟨_, rfl⟩, q⟩) hs
theorem sE_getI {x : Str} {p : Pos} {d : Addr} {kvs : List (Int × Int)} (ha : PE X a (tE nm X.K W fa)) (hg : Gl X x) (hm : X.mg x = some (.ref d)) (hdb : (x == ("__debug__" : Str)) = false) (T : TbI X.K d kvs) (hs : PlainIx a) :
    PE X (.Subscript (.Name x p) a pos) (tE nm X.K W fun e M => (fa e M).bind fun d e M => match d with | .int z => lift ((kvs.lookup z).map .int) e M | _ => .bad) := by
  refine (pe_ix ix_kdI (pe_glob hg hm (show RelV (.ref d) (.ref d) from rfl) hdb) ha hs).imp fun σ H Q ⟨fr, ρ, G, e, M, s, h⟩ => ?_
  refine tE.bind gdE_mono s h fun ρ1 G1 e1 M1 x v H1 g1 p1 s1 r1 h1 => ?_
  cases r1 with
  | int z =>
    simp only at h1
    cases q : kvs.lookup z with
    | none => rw [q] at h1; exact h1.elim
    | some i =>
      rw [q] at h1
      exact ⟨d, kvs, z, i, rfl, rfl, T, q, h1 _ H1 G1 ρ1 (Same.refl _) (Pre.refl _) s1 (.int _)⟩
  | _ => exact h1.elim
end
end PM

namespace PM
open PySem PySem.Spec PyProof.Rows L2

section
variable {prog : Program} {w : World} {A : Around} {E : Value → Shared → Prop} {s : Shared} {z TI TO T i1 i2 : Addr} {f : Bool} {oT : Obj} {fp1 fp2 : List Addr} {n1 n2 i : Nat} {P1 P2 : Nat → Value → Prop} {St1 St2 : Nat → Heap → Prop} {a1 a2 : Value}
theorem wpAny_pyNext_of_zip {Q : Option Value → Shared → Prop} {o : Obj} (ho : s.heap.get? z = some o) (hc : o.cls = .type "zip")
    (h : wpAny (model prog w) A.in1 (Builtin.«zip.__next__» ⟨[.ref z], []⟩) (fun fin s' => ∃ v, fin = .done (.ret v) ∧ Q (some v) s') (fun e s' => ∃ oe, (∃ a, e = .ref a ∧ s'.heap.get? a = some oe) ∧ oe.cls = .type "StopIteration" ∧ Q none s') s) : wpAny (model prog w) A (pyNext (.ref z)) Q E s := by
  have hT : s.TypeIs (.ref z) "zip" := ⟨o, ho, hc⟩
  unfold pyNext
  refine wpAny_bind (wpAny_attempt (wpAny_callSpecial?_slot (name := Str.ofString "__next__") hT F.slot_zip_next (wpAny_call_entry F.slot_zip_next hT F.entry_zip_next
    (wpAny_mono h (fun fin s' ⟨v, e, q⟩ => ⟨v, e, wpAny_pure q⟩) fun e s' ⟨oe, ⟨a, ea, g⟩, hc, q⟩ => ?_) (F.args_zip_next_1 _))))
  subst ea
  exact wpAny_bind (wpAny_isInstance (T := "StopIteration") (b := true) ⟨oe, g, hc⟩ isSubtype_stop (wpAny_pure q))
/-- the next pair while the first one that was given out is kept -/
theorem zipH_item {Q : Option Value → Shared → Prop} (S : ZipSep2 z TI TO i1 i2 fp1 fp2) (D1 : Draws prog w A.in1 i1 fp1 n1 P1 St1) (D2 : Draws prog w A.in1 i2 fp2 n2 P2 St2) (hz : IsZipHeld s.heap z TI TO T f) (hT : s.heap.get? T = some oT)
    (hTI : IsTupOf2 s.heap TI (.ref i1) (.ref i2)) (st1 : St1 i s.heap) (st2 : St2 i s.heap) (hlt1 : i < n1) (hlt2 : i < n2)
    (hQ : ∀ x1 x2 h' tk, P1 i x1 → P2 i x2 → IsZipHeld h' z TI TO T true → St1 (i + 1) h' → St2 (i + 1) h' → IsTupOf2 h' s.heap.objs.size x1 x2 →
      (∀ c o, c ≠ z → c ≠ i1 → c ≠ i2 → s.heap.get? c = some o → h'.get? c = some o) → Q (some (.ref s.heap.objs.size)) { s with heap := h', toks := tk }) :
    wpAny (model prog w) A (pyNext (.ref z)) Q E s := by
  refine wpAny_pyNext_of_zip hz rfl ?_
  obtain ⟨hp, g, d, tk0, os⟩ := s
  show wpAny _ _ (field (.ref z) 2 >>= _) _ _ _
  refine wpAny_bind (wpAny_field hz rfl (x := .bool false) rfl ?_)
  show wpAny _ _ (field (.ref z) 3 >>= _) _ _ _
  refine wpAny_bind (wpAny_field hz rfl (x := .ref TI) rfl ?_)
  refine wpAny_bind (wpAny_seqItems hTI rfl ?_)
  show wpAny _ _ (Builtin.SmallTypes.ownedTupleIsFree (.ref z) >>= _) _ _ _
  refine wpAny_bind (wpAny_tupleHeld_zip hz hT fun g0 hz0 hs0 => ?_)
  replace hs0 : Heap.SameBut z hp g0 := hs0
  simp only [Bool.false_eq_true, if_false]
  refine wpAny_bind ?_
  rw [← Array.forIn_toList]
  simp only [List.forIn_cons, List.forIn_nil]
  refine wpAny_bind (wpAny_bind (wpAny_holding ?_))
  show wpAny _ _ (Builtin.SmallTypes.nextOf (.ref i1) >>= _) _ _ ⟨g0, g, d, tk0, os⟩
  refine wpAny_bind (D1.item i _ _ _ hlt1 (D1.over st1 hs0 S.zf1) fun x1 p1 tk1 hx1 sn1 hp1 => wpAny_pure ?_)
  replace hp1 : Heap.SameBut i1 g0 p1 := hp1
  refine wpAny_pure ?_
  refine wpAny_bind (wpAny_bind (wpAny_holding ?_))
  show wpAny _ _ (Builtin.SmallTypes.nextOf (.ref i2) >>= _) _ _ ⟨p1, g, d, tk1, os⟩
  refine wpAny_bind (D2.item i _ _ _ hlt2 (D2.over (D2.over st2 hs0 S.zf2) hp1 S.sep1_2) fun x2 p2 tk2 hx2 sn2 hp2 => wpAny_pure ?_)
  replace hp2 : Heap.SameBut i2 p1 p2 := hp2
  refine wpAny_pure (wpAny_pure ?_)
  show wpAny _ _ (newTuple [x1, x2] >>= _) _ _ ⟨p2, g, d, tk2, os⟩
  refine wpAny_bind (wpAny_newTuple ?_)
  have hsz : p2.objs.size = hp.objs.size := by rw [hp2.1, hp1.1, hs0.1]
  have hkk : ∀ c o, c ≠ z → c ≠ i1 → c ≠ i2 → hp.get? c = some o → p2.get? c = some o := fun c o cz c1 c2 e => hp2.extBut _ _ c2 (hp1.extBut _ _ c1 (hs0.extBut _ _ cz e))
  have hzz : IsZipHeld p2 z TI TO T true := hp2.extBut _ _ S.zi2 (hp1.extBut _ _ S.zi1 hz0)
  refine wpAny_pure ⟨_, rfl, ?_⟩
  show Q (some (.ref p2.objs.size)) _
  have hp' : IsTupOf2 (p2.push { cls := .type "tuple", data := .seq #[x1, x2] }) p2.objs.size x1 x2 := Heap.get?_push_size _ rfl
  rw [hsz] at hp' ⊢
  exact hQ x1 x2 _ tk2 hx1 hx2 (Heap.get?_push_of_some _ hzz) (D1.frame _ _ _ (D1.over sn1 hp2 S.sep2_1) fun b _ o e => Heap.get?_push_of_some _ e) (D2.frame _ _ _ sn2 fun b _ o e => Heap.get?_push_of_some _ e) hp'
    fun c o cz c1 c2 e => Heap.get?_push_of_some _ (hkk c o cz c1 c2 e)
theorem zipH_end {Q : Option Value → Shared → Prop} (S : ZipSep2 z TI TO i1 i2 fp1 fp2) (D1 : Draws prog w A.in1 i1 fp1 n1 P1 St1) (D2 : Draws prog w A.in1 i2 fp2 n2 P2 St2) (hz : IsZipHeld s.heap z TI TO T f) (hT : s.heap.get? T = some oT)
    (hTI : IsTupOf2 s.heap TI (.ref i1) (.ref i2)) (st1 : St1 i s.heap) (st2 : St2 i s.heap) (hle1 : i ≤ n1) (hle2 : i ≤ n2) (hend : i = n1 ∨ i = n2)
    (hQ : ∀ h' tk, (∀ c o, c ≠ z → c ≠ i1 → c ≠ i2 → s.heap.get? c = some o → h'.get? c = some o) → Q none { s with heap := h', toks := tk }) :
    wpAny (model prog w) A (pyNext (.ref z)) Q E s := by
  refine wpAny_pyNext_of_zip hz rfl ?_
  obtain ⟨hp, g, d, tk0, os⟩ := s
  show wpAny _ _ (field (.ref z) 2 >>= _) _ _ _
  refine wpAny_bind (wpAny_field hz rfl (x := .bool false) rfl ?_)
  show wpAny _ _ (field (.ref z) 3 >>= _) _ _ _
  refine wpAny_bind (wpAny_field hz rfl (x := .ref TI) rfl ?_)
  refine wpAny_bind (wpAny_seqItems hTI rfl ?_)
  show wpAny _ _ (Builtin.SmallTypes.ownedTupleIsFree (.ref z) >>= _) _ _ _
  refine wpAny_bind (wpAny_tupleHeld_zip hz hT fun g0 hz0 hs0 => ?_)
  replace hs0 : Heap.SameBut z hp g0 := hs0
  simp only [Bool.false_eq_true, if_false]
  refine wpAny_bind ?_
  rw [← Array.forIn_toList]
  simp only [List.forIn_cons, List.forIn_nil]
  refine wpAny_bind (wpAny_bind (wpAny_holding ?_))
  show wpAny _ _ (Builtin.SmallTypes.nextOf (.ref i1) >>= _) _ _ ⟨g0, g, d, tk0, os⟩
  by_cases h1 : i = n1
  · subst h1
    refine wpAny_bind (D1.done _ _ _ (D1.over st1 hs0 S.zf1) fun p1 e hp1 he => ?_)
    obtain ⟨oe, h1, h2⟩ := he
    exact ⟨oe, ⟨e, rfl, h1⟩, h2, hQ p1 tk0 fun c o cz c1 c2 x => hp1 _ _ c1 (hs0.extBut _ _ cz x)⟩
  · have h2 : i = n2 := hend.resolve_left h1
    have hlt1 : i < n1 := by omega
    refine wpAny_bind (D1.item i _ _ _ hlt1 (D1.over st1 hs0 S.zf1) fun x1 p1 tk1 hx1 sn1 hp1 => wpAny_pure ?_)
    replace hp1 : Heap.SameBut i1 g0 p1 := hp1
    refine wpAny_pure ?_
    refine wpAny_bind (wpAny_bind (wpAny_holding ?_))
    show wpAny _ _ (Builtin.SmallTypes.nextOf (.ref i2) >>= _) _ _ ⟨p1, g, d, tk1, os⟩
    subst h2
    refine wpAny_bind (D2.done _ _ _ (D2.over (D2.over st2 hs0 S.zf2) hp1 S.sep1_2) fun p2 e hp2 he => ?_)
    obtain ⟨oe, h1, h2⟩ := he
    exact ⟨oe, ⟨e, rfl, h1⟩, h2, hQ p2 tk1 fun c o cz c1 c2 x => hp2 _ _ c2 (hp1.extBut _ _ c1 (hs0.extBut _ _ cz x))⟩
end
end PM
namespace PM
open PySem PySem.Spec PyProof.Rows L2
/-- a zip, its tuple free or out -/
def ZSt (z TI TO i1 i2 S : Addr) (h : Heap) : Prop := (IsZip h z TI TO .none ∧ ∃ a1 a2, IsTupOf2 h TO a1 a2) ∨ ∃ T f oT, IsZipHeld h z TI TO T f ∧ h.get? T = some oT ∧ T ≠ z ∧ T ≠ TO ∧ T ≠ i1 ∧ T ≠ i2 ∧ T ≠ S ∧ TO < h.objs.size
section
variable {prog : Program} {w : World} {A : Around} {E : Value → Shared → Prop} {s : Shared} {z TI TO i1 i2 S : Addr} {fp1 fp2 : List Addr} {n1 n2 i : Nat} {P1 P2 : Nat → Value → Prop} {St1 St2 : Nat → Heap → Prop}
theorem ZSt.at' {h h' : Heap} (x : ZSt z TI TO i1 i2 S h) (k : ∀ c o, c ≠ S → h.get? c = some o → h'.get? c = some o) (hz : z ≠ S) (hT : TO ≠ S) (hs : h.objs.size ≤ h'.objs.size) : ZSt z TI TO i1 i2 S h' := by
  rcases x with ⟨a, b, c, d⟩ | ⟨T, f, oT, a, b, c, d, e, g, q, l⟩
  · exact .inl ⟨k _ _ hz a, b, c, k _ _ hT d⟩
  · exact .inr ⟨T, f, oT, k _ _ hz a, k _ _ q b, c, d, e, g, q, Nat.lt_of_lt_of_le l hs⟩
theorem ZSt.zip {h : Heap} (x : ZSt z TI TO i1 i2 S h) : ∃ o, h.get? z = some o ∧ o.cls = .type "zip" := by
  rcases x with ⟨a, _⟩ | ⟨T, f, oT, a, _⟩
  · exact ⟨_, a, rfl⟩
  · exact ⟨_, a, rfl⟩
theorem zipX_item {Q : Option Value → Shared → Prop} (Sp : ZipSep2 z TI TO i1 i2 fp1 fp2) (D1 : Draws prog w A.in1 i1 fp1 n1 P1 St1) (D2 : Draws prog w A.in1 i2 fp2 n2 P2 St2) (hz : ZSt z TI TO i1 i2 S s.heap) (hS : S < s.heap.objs.size)
    (hTI : IsTupOf2 s.heap TI (.ref i1) (.ref i2)) (st1 : St1 i s.heap) (st2 : St2 i s.heap) (hlt1 : i < n1) (hlt2 : i < n2)
    (hQ : ∀ x1 x2 h' tk, P1 i x1 → P2 i x2 → ZSt z TI TO i1 i2 S h' → St1 (i + 1) h' → St2 (i + 1) h' → IsTupOf2 h' s.heap.objs.size x1 x2 → s.heap.objs.size ≠ z → s.heap.objs.size ≠ TO → s.heap.objs.size ≠ i1 → s.heap.objs.size ≠ i2 →
      (∀ c o, c ≠ z → c ≠ TO → c ≠ i1 → c ≠ i2 → s.heap.get? c = some o → h'.get? c = some o) → Q (some (.ref s.heap.objs.size)) { s with heap := h', toks := tk }) :
    wpAny (model prog w) A (pyNext (.ref z)) Q E s := by
  have lt : ∀ {c o}, s.heap.get? c = some o → s.heap.objs.size ≠ c := fun e => Nat.ne_of_gt (Heap.lt_size e)
  obtain ⟨oz, ez, _⟩ := hz.zip
  have l1 : s.heap.objs.size ≠ i1 := by obtain ⟨_, e⟩ := D1.live _ _ st1; exact lt e
  have l2 : s.heap.objs.size ≠ i2 := by obtain ⟨_, e⟩ := D2.live _ _ st2; exact lt e
  rcases hz with ⟨a, a1, a2, b⟩ | ⟨T, f, oT, a, b, c, d, e, g, q, l⟩
  · refine wpAny_pyNext_zipD2_item Sp D1 D2 a hTI b st1 st2 hlt1 hlt2 fun x1 x2 h' tk y1 y2 b1 b2 d1 d2 b5 b6 hk => ?_
    exact hQ x1 x2 h' tk y1 y2 (.inr ⟨_, false, _, b1, b5, lt ez, lt b, l1, l2, Nat.ne_of_gt hS, Heap.lt_size b2⟩) d1 d2 b5 (lt ez) (lt b) l1 l2 hk
  · refine zipH_item Sp D1 D2 a b hTI st1 st2 hlt1 hlt2 fun x1 x2 h' tk y1 y2 b1 d1 d2 b5 hk => ?_
    have hl' : s.heap.objs.size < h'.objs.size := Heap.lt_size b5
    exact hQ x1 x2 h' tk y1 y2 (.inr ⟨T, true, oT, b1, hk _ _ c e g b, c, d, e, g, q, Nat.lt_trans l hl'⟩) d1 d2 b5 (lt ez) (Nat.ne_of_gt l) l1 l2 fun c o c1 _ c3 c4 e => hk c o c1 c3 c4 e
theorem zipX_end {Q : Option Value → Shared → Prop} (Sp : ZipSep2 z TI TO i1 i2 fp1 fp2) (D1 : Draws prog w A.in1 i1 fp1 n1 P1 St1) (D2 : Draws prog w A.in1 i2 fp2 n2 P2 St2) (hz : ZSt z TI TO i1 i2 S s.heap)
    (hTI : IsTupOf2 s.heap TI (.ref i1) (.ref i2)) (st1 : St1 i s.heap) (st2 : St2 i s.heap) (hle1 : i ≤ n1) (hle2 : i ≤ n2) (hend : i = n1 ∨ i = n2)
    (hQ : ∀ h' tk, (∀ c o, c ≠ z → c ≠ TO → c ≠ i1 → c ≠ i2 → s.heap.get? c = some o → h'.get? c = some o) → Q none { s with heap := h', toks := tk }) :
    wpAny (model prog w) A (pyNext (.ref z)) Q E s := by
  rcases hz with ⟨a, a1, a2, b⟩ | ⟨T, f, oT, a, b, c, d, e, g, q, l⟩
  · exact wpAny_pyNext_zipD2_end Sp D1 D2 a hTI b st1 st2 hle1 hle2 hend hQ
  · exact zipH_end Sp D1 D2 a b hTI st1 st2 hle1 hle2 hend fun h' tk hk => hQ h' tk fun c o c1 _ c3 c4 e => hk c o c1 c3 c4 e
/-- what the list holds after i turns -/
def ZAcc (P1 P2 : Nat → Value → Prop) (z TO i1 i2 S : Addr) (B : Nat) (h : Heap) (acc : Array Value) : Prop := acc.toList.Nodup ∧ ∀ (j : Nat) (hj : j < acc.size), ∃ T x y, acc[j] = .ref T ∧ IsTupOf2 h T x y ∧ P1 j x ∧ P2 j y ∧ T ≠ z ∧ T ≠ TO ∧ T ≠ i1 ∧ T ≠ i2 ∧ T ≠ S ∧ B ≤ T
theorem ZAcc.at' {B : Nat} {h h' : Heap} {acc : Array Value} (x : ZAcc P1 P2 z TO i1 i2 S B h acc) (k : ∀ c o, c ≠ z → c ≠ TO → c ≠ i1 → c ≠ i2 → c ≠ S → h.get? c = some o → h'.get? c = some o) : ZAcc P1 P2 z TO i1 i2 S B h' acc := ⟨x.1, fun j hj => by
  obtain ⟨T, x, y, h1, h2, h3, h4, h5, h6, h7, h8, h9, h10⟩ := x.2 j hj
  exact ⟨T, x, y, h1, k _ _ h5 h6 h7 h8 h9 h2, h3, h4, h5, h6, h7, h8, h9, h10⟩⟩
theorem zip_loop {B : Nat} {R : Result → Shared → Prop} (Sp : ZipSep2 z TI TO i1 i2 fp1 fp2) (D1 : Draws prog w A.in1.in1 i1 fp1 n1 P1 St1) (D2 : Draws prog w A.in1.in1 i2 fp2 n2 P2 St2) (hSz : z ≠ S) (hSO : TO ≠ S) (hSI : TI ≠ S) (f1 : S ∉ fp1) (f2 : S ∉ fp2) (res : Value) (hn : min n1 n2 ≤ sizeLine) :
    ∀ (k i : Nat) (s : Shared) (acc : Array Value) (c : Nat), min n1 n2 - i = k → i ≤ min n1 n2 → ZSt z TI TO i1 i2 S s.heap → IsTupOf2 s.heap TI (.ref i1) (.ref i2) → St1 i s.heap → St2 i s.heap →
      s.heap.get? S = some { cls := .type "list", dict := none, data := .seq acc c, slots := #[] } → acc.size = i → B ≤ s.heap.objs.size → ZAcc P1 P2 z TO i1 i2 S B s.heap acc →
      (∀ h' tk acc' c', h'.get? S = some { cls := .type "list", dict := none, data := .seq acc' c', slots := #[] } → acc'.size = min n1 n2 → ZAcc P1 P2 z TO i1 i2 S B h' acc' →
        (∀ c o, c ≠ S → c ≠ z → c ≠ TO → c ≠ i1 → c ≠ i2 → s.heap.get? c = some o → h'.get? c = some o) → R (.ok (.ret res)) { s with heap := h', toks := tk }) →
      codeAny (model prog w) A (.builtin "list.extend.loop" ⟨[.ref S, .ref z, res], []⟩) R s := by
  intro k
  induction k with
  | zero =>
    intro i s acc c hk hi hz hTI st1 st2 hS hsz hB hacc hR
    refine codeAny_builtin F.entry_extend_loop ?_
    rw [Around.under_plainId F.plain_extend_loop _]
    show wpAny _ A.in1 (pyNext (.ref z) >>= _) _ _ s
    refine wpAny_bind (zipX_end Sp D1 D2 hz hTI st1 st2 (by omega) (by omega) (by omega) fun h' tk kp => ?_)
    have f1' : S ≠ i1 := fun e => f1 (by rw [e]; exact Sp.mem1)
    have f2' : S ≠ i2 := fun e => f2 (by rw [e]; exact Sp.mem2)
    exact wpAny_pure (hR h' tk acc c (kp S _ hSz.symm hSO.symm f1' f2' hS) (by omega) (hacc.at' fun c o c1 c2 c3 c4 _ e => kp c o c1 c2 c3 c4 e) fun c o _ c1 c2 c3 c4 e => kp c o c1 c2 c3 c4 e)
  | succ k ih =>
    intro i s acc c hk hi hz hTI st1 st2 hS hsz hB hacc hR
    have f1' : S ≠ i1 := fun e => f1 (by rw [e]; exact Sp.mem1)
    have f2' : S ≠ i2 := fun e => f2 (by rw [e]; exact Sp.mem2)
    have hSl : S < s.heap.objs.size := Heap.lt_size hS
    refine codeAny_builtin F.entry_extend_loop ?_
    rw [Around.under_plainId F.plain_extend_loop _]
    show wpAny _ A.in1 (pyNext (.ref z) >>= _) _ _ s
    refine wpAny_bind (zipX_item Sp D1 D2 hz hSl hTI st1 st2 (by omega) (by omega) fun x1 x2 h' tk y1 y2 hz' d1 d2 hT n1' n2' n3' n4' kp => ?_)
    have hS' := kp S _ hSz.symm hSO.symm f1' f2' hS
    show wpAny _ A.in1 (updateSeq S (·.push (.ref s.heap.objs.size)) >>= _) _ _ _
    refine wpAny_bind ?_
    have oth : ∀ b o, b ≠ S → h'.get? b = some o → (h'.update S (Obj.mapSeq (·.push (.ref s.heap.objs.size)))).get? b = some o := fun b o hb e => (Heap.get?_update_other _ _ (Ne.symm hb)).trans e
    have nS : s.heap.objs.size ≠ S := Nat.ne_of_gt hSl
    refine wpAny_updateSeq hS' rfl (wpAny_pure ⟨plainId_quiet F.plain_extend_loop _, ih (i + 1) _ (acc.push (.ref s.heap.objs.size)) _ (by omega) (by omega) (hz'.at' oth hSz hSO (by rw [Heap.size_update]; exact Nat.le_refl _)) (oth _ _ hSI (kp _ _ Sp.TIz Sp.TITO Sp.TIi1 Sp.TIi2 hTI))
      (D1.frame _ _ _ d1 fun b hb o e => oth b o (fun q => f1 (q ▸ hb)) e) (D2.frame _ _ _ d2 fun b hb o e => oth b o (fun q => f2 (q ▸ hb)) e) (Heap.get?_update_self _ hS' rfl) (by rw [Array.size_push, hsz]) ?_ ?_ fun h'' tk' acc' c' hS'' hsz'' hacc'' kp'' => ?_⟩) (by rw [hsz]; omega) (by show (acc.push _).size ≤ sizeLine + 1; rw [Array.size_push, hsz]; omega)
    · show B ≤ (h'.update S _).objs.size
      rw [Heap.size_update]
      exact Nat.le_of_lt (Nat.lt_of_le_of_lt hB (Heap.lt_size hT))
    · refine ⟨?_, fun j hj => ?_⟩
      · rw [Array.toList_push, List.nodup_append]
        refine ⟨hacc.1, by simp, fun v hv u hu e => ?_⟩
        have hu : u = .ref s.heap.objs.size := by simpa using hu
        subst hu; subst e
        obtain ⟨j, hj, ej⟩ := List.getElem_of_mem hv
        obtain ⟨T, x, y, e1, e2, _⟩ := hacc.2 j (by simpa using hj)
        have e1 : Value.ref s.heap.objs.size = .ref T := by rw [← e1, ← ej]; simp
        cases e1
        exact absurd (Heap.lt_size e2) (Nat.lt_irrefl _)
      · by_cases hjl : j < acc.size
        · obtain ⟨T, x, y, e1, e2, e3, e4, e5, e6, e7, e8, e9, e10⟩ := hacc.2 j hjl
          exact ⟨T, x, y, by rw [Array.getElem_push_lt hjl]; exact e1, oth _ _ e9 (kp _ _ e5 e6 e7 e8 e2), e3, e4, e5, e6, e7, e8, e9, e10⟩
        · have ej : j = acc.size := by rw [Array.size_push] at hj; omega
          subst ej
          refine ⟨s.heap.objs.size, x1, x2, by simp, oth _ _ nS hT, by rw [hsz]; exact y1, by rw [hsz]; exact y2, n1', n2', n3', n4', nS, hB⟩
    · exact hR h'' tk' acc' c' hS'' hsz'' hacc'' fun c o c0 c1 c2 c3 c4 e => kp'' c o c0 c1 c2 c3 c4 (oth c o c0 (kp c o c1 c2 c3 c4 e))
end
end PM

namespace PM
open PySem PySem.Spec PyProof.Rows L2
theorem zip_no_len : typeLookup (.type "zip") "__len__" = pure none := am_miss_of_fast (by decide +kernel)
theorem zip_no_hint : typeLookup (.type "zip") "__length_hint__" = pure none := am_miss_of_fast (by decide +kernel)
section
variable {prog : Program} {w : World} {A : Around} {E : Value → Shared → Prop} {s : Shared} {z TI TO i1 i2 S : Addr} {fp1 fp2 : List Addr} {n1 n2 i : Nat} {P1 P2 : Nat → Value → Prop} {St1 St2 : Nat → Heap → Prop}
theorem zip_init {B : Nat} {R : Result → Shared → Prop} (hB : B ≤ s.heap.objs.size) (Sp : ZipSep2 z TI TO i1 i2 fp1 fp2) (D1 : Draws prog w A.in1.in1 i1 fp1 n1 P1 St1) (D2 : Draws prog w A.in1.in1 i2 fp2 n2 P2 St2) (hz : IsZip s.heap z TI TO .none) {a1 a2 : Value} (hTO : IsTupOf2 s.heap TO a1 a2)
    (hTI : IsTupOf2 s.heap TI (.ref i1) (.ref i2)) (st1 : St1 0 s.heap) (st2 : St2 0 s.heap) (hSz : z ≠ S) (hSO : TO ≠ S) (hSI : TI ≠ S) (f1 : S ∉ fp1) (f2 : S ∉ fp2) (hn : min n1 n2 ≤ sizeLine) (hS : s.heap.get? S = some { cls := .type "list", data := .seq #[] })
    (hR : ∀ h' tk acc c, h'.get? S = some { cls := .type "list", dict := none, data := .seq acc c, slots := #[] } → acc.size = min n1 n2 → ZAcc P1 P2 z TO i1 i2 S B h' acc →
      (∀ c o, c ≠ S → c ≠ z → c ≠ TO → c ≠ i1 → c ≠ i2 → s.heap.get? c = some o → h'.get? c = some o) → R (.ok (.ret .none)) { s with heap := h', toks := tk }) :
    wpAny (model prog w) A.in1 (Builtin.«list.__init__» ⟨[.ref S, .ref z], []⟩)
      (fun fin s' => match fin with | .done f => R (.ok f) s' | .again c' => c'.quiet = true ∧ codeAny (model prog w) A c' R s') (fun e s' => R (.error e) s') s := by
  show wpAny _ A.in1 (do let old ← Builtin.List.listItems (.ref S); Builtin.List.listUpdate (.ref S) (fun _ => #[]); letGo old.toList.reverse; Builtin.List.listExtendWith (.ref S) (.ref z) .none) _ _ s
  refine wpAny_bind ?_
  unfold Builtin.List.listItems
  refine wpAny_bind (wpAny_seqItems hS rfl (wpAny_pure ?_))
  show wpAny _ A.in1 (updateSeq S (fun _ => #[]) >>= fun _ => letGo (#[] : Array Value).toList.reverse >>= fun _ => Builtin.List.listExtendWith (.ref S) (.ref z) .none) _ _ s
  refine wpAny_bind (wpAny_updateSeq hS rfl ?_)
  have hS₂ := Heap.get?_update_self (Obj.mapSeq (fun _ => (#[] : Array Value))) hS rfl
  have up : ∀ b o, b ≠ S → s.heap.get? b = some o → (s.heap.update S (Obj.mapSeq (fun _ => (#[] : Array Value)))).get? b = some o := fun b o hb e => (Heap.get?_update_other _ _ (Ne.symm hb)).trans e
  refine wpAny_bind (wpAny_letGo ?_)
  have hzz := up _ _ hSz hz
  have hT : Shared.TypeIs { s with heap := s.heap.update S (Obj.mapSeq (fun _ => (#[] : Array Value))) } (.ref z) "zip" := ⟨_, hzz, rfl⟩
  unfold Builtin.List.listExtendWith
  refine wpAny_bind (wpAny_typeOf hT ?_)
  have e1 : Builtin.List.listSameRef (.ref S) (.ref z) = false := by simp [Builtin.List.listSameRef, hSz.symm]
  have e2 : (Value.type "zip" == Value.type "list") = false := by decide
  have e3 : (Value.type "zip" == Value.type "tuple") = false := by decide
  simp only [e1, e2, e3, Bool.or_false, Bool.false_eq_true, if_false]
  refine wpAny_bind (wpAny_pyIter_zip hzz ?_)
  refine wpAny_bind (wpAny_holding ?_)
  unfold Builtin.List.listLengthHint
  refine wpAny_bind (wpAny_specialOf hT zip_no_len ?_)
  show wpAny _ A.in1 (specialOf (Value.ref z) (Str.ofString "__length_hint__") >>= _) _ _ _
  refine wpAny_bind (wpAny_specialOf hT zip_no_hint ?_)
  refine wpAny_pure ?_
  show wpAny _ A.in1 (rule "list.extend.makes-room" >>= fun _ => Builtin.List.listTouch (.ref S) >>= fun _ => again (.builtin "list.extend.loop" ⟨[.ref S, .ref z, .none], []⟩)) _ _ _
  refine wpAny_bind (wpAny_rule ?_)
  refine wpAny_bind ?_
  show wpAny _ A.in1 (updateSeq S (·.push .none) >>= fun _ => updateSeq S (·.pop)) _ _ _
  refine wpAny_bind (wpAny_updateSeq hS₂ rfl ?_)
  have hS₃ := Heap.get?_update_self (Obj.mapSeq (·.push Value.none)) hS₂ rfl
  refine wpAny_updateSeq (hz := by seq_fits) hS₃ rfl ?_
  have hS₄ := Heap.get?_update_self (Obj.mapSeq (·.pop)) hS₃ rfl
  have up2 : ∀ b o, b ≠ S → s.heap.get? b = some o → (((s.heap.update S (Obj.mapSeq (fun _ => (#[] : Array Value)))).update S (Obj.mapSeq (·.push Value.none))).update S (Obj.mapSeq (·.pop))).get? b = some o :=
    fun b o hb e => (Heap.get?_update_other _ _ (Ne.symm hb)).trans ((Heap.get?_update_other _ _ (Ne.symm hb)).trans (up b o hb e))
  refine wpAny_pure ⟨plainId_quiet F.plain_extend_loop _, zip_loop Sp D1 D2 hSz hSO hSI f1 f2 .none hn _ 0 _ _ _ rfl (Nat.zero_le _) (.inl ⟨up2 _ _ hSz hz, _, _, up2 _ _ hSO hTO⟩) (up2 _ _ hSI hTI)
    (D1.frame _ _ _ st1 fun b hb o e => up2 b o (fun q => f1 (q ▸ hb)) e) (D2.frame _ _ _ st2 fun b hb o e => up2 b o (fun q => f2 (q ▸ hb)) e) hS₄ rfl (by simp only [Heap.size_update]; exact hB) ⟨by simp, fun j hj => absurd hj (by simp)⟩ fun h' tk acc c h1 h2 h3 h4 => ?_⟩
  exact hR h' tk acc c h1 h2 h3 fun b o c0 c1 c2 c3 c4 e => h4 b o c0 c1 c2 c3 c4 (up2 b o c0 e)
theorem call_list_zip {Q : Value → Shared → Prop} (Sp : ZipSep2 z TI TO i1 i2 fp1 fp2) (D1 : Draws prog w A.in1.in1.in1 i1 fp1 n1 P1 St1) (D2 : Draws prog w A.in1.in1.in1 i2 fp2 n2 P2 St2) (hz : IsZip s.heap z TI TO .none) {a1 a2 : Value} (hTO : IsTupOf2 s.heap TO a1 a2)
    (hTI : IsTupOf2 s.heap TI (.ref i1) (.ref i2)) (st1 : St1 0 s.heap) (st2 : St2 0 s.heap) (f1 : ∀ b ∈ fp1, b < s.heap.objs.size) (f2 : ∀ b ∈ fp2, b < s.heap.objs.size) (hn : min n1 n2 ≤ sizeLine)
    (hQ : ∀ h' tk acc c, h'.get? s.heap.objs.size = some { cls := .type "list", dict := none, data := .seq acc c, slots := #[] } → acc.size = min n1 n2 → ZAcc P1 P2 z TO i1 i2 s.heap.objs.size (s.heap.objs.size + 1) h' acc →
      (∀ c o, c ≠ z → c ≠ TO → c ≠ i1 → c ≠ i2 → s.heap.get? c = some o → h'.get? c = some o) → Q (.ref s.heap.objs.size) { s with heap := h', toks := tk }) :
    wpAny (model prog w) A (call (.type "list") [.ref z]) Q E s := by
  have n1' : s.heap.objs.size ∉ fp1 := fun m => Nat.lt_irrefl _ (f1 _ m)
  have n2' : s.heap.objs.size ∉ fp2 := fun m => Nat.lt_irrefl _ (f2 _ m)
  have lt : ∀ {c o}, s.heap.get? c = some o → c ≠ s.heap.objs.size := fun e => Nat.ne_of_lt (Heap.lt_size e)
  refine callType_codes (Q₁ := fun obj s₁ => obj = .ref s.heap.objs.size ∧ s₁ = { s with heap := s.heap.push { cls := .type "list", data := .seq #[] } }) F.called_list (F.typeCall_list_1 _) F.entry_list_init
    (code_list_new _ ⟨rfl, rfl⟩) fun obj s₁ h₁ => ?_
  obtain ⟨rfl, rfl⟩ := h₁
  have hS : (s.heap.push { cls := .type "list", data := .seq #[] }).get? s.heap.objs.size = some { cls := .type "list", data := .seq #[] } := Heap.get?_push_size _ rfl
  have up : ∀ b o, s.heap.get? b = some o → (s.heap.push { cls := .type "list", data := .seq #[] }).get? b = some o := fun b o e => Heap.get?_push_of_some _ e
  refine ⟨⟨_, hS, rfl⟩, F.args_list_init_2 _ _, zip_init (B := s.heap.objs.size + 1) (by rw [Heap.size_push]; exact Nat.le_refl _) Sp D1 D2 (up _ _ hz) (up _ _ hTO) (up _ _ hTI) (D1.frame _ _ _ st1 fun b _ o e => up b o e) (D2.frame _ _ _ st2 fun b _ o e => up b o e) (lt hz) (lt hTO) (lt hTI) n1' n2' hn hS fun h' tk acc c h1 h2 h3 h4 => ?_⟩
  exact ⟨rfl, hQ h' tk acc c h1 h2 h3 fun c o c1 c2 c3 c4 e => h4 c o (lt e) c1 c2 c3 c4 (up c o e)⟩
end
end PM

namespace PM
open PySem PySem.Spec PyProof.Rows L2
section
variable {prog : Program} {w : World} {A : Around} {E : Value → Shared → Prop}
abbrev tkd (prog : Program) (w : World) := tupleKind (mixKind prog w)
theorem tkd_keep {h h' : Heap} {k : List L2.Key} {a : Addr} (x : (tkd prog w).is h k a) (kp : ∀ o, h.get? a = some o → h'.get? a = some o) : (tkd prog w).is h' k a := by
  obtain ⟨o, its, n, h1, r⟩ := x
  exact ⟨o, its, n, kp o h1, r⟩
theorem doh_at {h h' : Heap} {d : Addr} {xs : List (List L2.Key × Addr × Value)} (x : h.DictOfH (tkd prog w) d xs) (kp : ∀ b o, (b = d ∨ b ∈ xs.map (·.2.1)) → h.get? b = some o → h'.get? b = some o) : h'.DictOfH (tkd prog w) d xs := by
  obtain ⟨o, es, ep, h1, h2, h3, h4, h5, h6⟩ := x
  exact ⟨o, es, ep, kp _ _ (.inl rfl) h1, h2, h3, h4, fun y hy => tkd_keep (h5 y hy) fun o e => kp _ _ (.inr (List.mem_map.mpr ⟨y, hy, rfl⟩)) e, h6⟩
theorem atKey_nil {xs : List (List L2.Key × Addr × Value)} {k : List L2.Key} (h : k ∉ xs.map (·.1)) : atKey xs k = none := by
  unfold atKey
  cases q : xs.find? fun x => decide (x.1 = k) with
  | none => rfl
  | some x =>
    have h1 := List.find?_some q
    have h2 := List.mem_of_find?_eq_some q
    exact absurd (List.mem_map.mpr ⟨x, h2, by simpa using h1⟩) h
/-- dict of pairs, the keys tuples, all different -/
theorem updT_loop {R : Result → Shared → Prop} {S I l : Addr} {items : Array Value} {res : Value} (hh : A.handled = none) (hu : A.in1.units < cLine) (hlI : l ≠ I) (hSI : S ≠ I) (hSl : S ≠ l) :
    ∀ (rest : List (List L2.Key × Addr × Value)) (i : Nat) (acc : List (List L2.Key × Addr × Value)) (ix : Int) (t : Tok) (s : Shared), items.size = i + rest.length → acc.length + rest.length ≤ sizeLine → ((acc ++ rest).map (·.1)).Nodup →
      (∀ (j : Nat) (q : List L2.Key × Addr × Value), rest[j]? = some q → ∃ b : Addr, items[i + j]? = some (.ref b) ∧ b ≠ S ∧ b ≠ I ∧ IsTup s.heap b #[.ref q.2.1, q.2.2] ∧ (tkd prog w).is s.heap q.1 q.2.1 ∧ q.2.1 ≠ S ∧ q.2.1 ≠ I) →
      (∀ x ∈ acc, x.2.1 ≠ S ∧ x.2.1 ≠ I) →
      s.heap.IsListIter I l i → s.heap.IsList l items → s.heap.DictOfH (tkd prog w) S acc →
      (∀ h' tk, h'.DictOfH (tkd prog w) S (acc ++ rest) → (∀ b o, b ≠ S → b ≠ I → s.heap.get? b = some o → h'.get? b = some o) → R (.ok (.ret res)) { s with heap := h', toks := tk }) →
      codeAny (model prog w) A (.builtin "dict.update.loop" ⟨[.ref S, .ref I, .int ix t, res], []⟩) R s
  | [], i, acc, ix, t, s, hsz, hln, hnd, ht, hac, hit, hl, hm, hR => by
    refine codeAny_builtin ud_entry ?_
    rw [Around.under_plainId ud_plain _]
    show wpAny _ A.in1 (pyNext (.ref I) >>= _) _ _ s
    have hno : items[i]? = none := Array.getElem?_eq_none (by rw [List.length_nil] at hsz; omega)
    refine wpAny_bind ?_
    refine wpAny_pyNext_list_end (A := A.in1) hh hit hl hno (fun h' he => ?_)
    show wpAny _ A.in1 (Builtin.Dict.addKeywords S [] >>= _) _ _ _
    refine wpAny_bind (wpAny_pure (wpAny_pure ?_))
    refine hR h' s.toks ?_ fun b o _ hb e => he b o hb e
    rw [List.append_nil]
    refine doh_at hm fun b o hb e => he b o (fun z => ?_) e
    rcases hb with rfl | hb
    · exact hSI z
    · obtain ⟨x, hx, rfl⟩ := List.mem_map.mp hb
      exact (hac x hx).2 z
  | q :: rest, i, acc, ix, t, s, hsz, hln, hnd, ht, hac, hit, hl, hm, hR => by
    obtain ⟨b, hb, hbS, hbI, htup, hk, hqS, hqI⟩ := ht 0 q rfl
    rw [List.length_cons] at hsz hln
    refine codeAny_builtin ud_entry ?_
    rw [Around.under_plainId ud_plain _]
    show wpAny _ A.in1 (pyNext (.ref I) >>= _) _ _ s
    refine wpAny_bind (wpAny_pyNext_list_item (x := .ref b) hit hl (by simpa using hb) fun h1 hit1 hs1 => ?_)
    have ht1 : IsTup h1 b #[.ref q.2.1, q.2.2] := htup.extBut hs1.extBut hbI
    have hl1 : h1.IsList l items := hl.extBut hs1.extBut hlI
    have hm1 : h1.DictOfH (tkd prog w) S acc := doh_at hm fun c o hc e => hs1.extBut c o (fun z => by
      rcases hc with rfl | hc
      · exact hSI z
      · obtain ⟨x, hx, rfl⟩ := List.mem_map.mp hc
        exact (hac x hx).2 z) e
    have hk1 : (tkd prog w).is h1 q.1 q.2.1 := tkd_keep hk fun o e => hs1.extBut _ o hqI e
    obtain ⟨o, ho, hc, n, hd⟩ := id ht1
    have hnk : q.1 ∉ acc.map (·.1) := fun z => by
      rw [List.map_append, List.nodup_append] at hnd
      exact hnd.2.2 _ z _ (by simp) rfl
    show wpAny _ A.in1 (holding [Value.ref b] _ >>= _) _ _ _
    refine wpAny_bind (wpAny_holding ?_)
    refine wpAny_bind (wpAny_tryCatch ?_)
    unfold Builtin.Dict.pairItems
    refine wpAny_bind (wpAny_typeOf (T := "tuple") ⟨o, ho, hc⟩ ?_)
    rw [if_pos (by first | decide | rfl | simp)]
    refine wpAny_bind (wpAny_seqItems ho hd (wpAny_pure ?_))
    show wpAny _ A.in1 (holding [.ref q.2.1, q.2.2] (dictSet S (.ref q.2.1) q.2.2)) _ _ _
    refine wpAny_holding (wpAny_dictSet_heap (knd := tkd prog w) (k := q.1) hu hk1 hm1 (fun h2 hm2 hs2 => ?_) (by omega))
    rw [storedH_new (atKey_nil hnk)] at hm2
    refine wpAny_pure ⟨plainId_quiet ud_plain _, updT_loop (items := items) hh hu hlI hSI hSl rest (i + 1) (acc ++ [(q.1, q.2.1, q.2.2)]) (ix + 1) 0 _ (show items.size = i + 1 + rest.length by omega) (by simp; omega) (by rw [List.append_assoc]; exact hnd) (fun j q' e => ?_) (fun x hx => ?_) ?_ ?_ hm2 fun h' tk hd' k => ?_⟩
    · obtain ⟨b', hb', hbS', hbI', htup', hk', hqS', hqI'⟩ := ht (j + 1) q' (by simpa using e)
      refine ⟨b', ?_, hbS', hbI', (htup'.extBut hs1.extBut hbI').extBut hs2.extBut hbS', tkd_keep hk' fun o e => hs2.extBut _ _ hqS' (hs1.extBut _ _ hqI' e), hqS', hqI'⟩
      rw [show i + 1 + j = i + (j + 1) by omega]
      exact hb'
    · rcases List.mem_append.mp hx with hx | hx
      · exact hac x hx
      · have : x = (q.1, q.2.1, q.2.2) := by simpa using hx
        subst this
        exact ⟨hqS, hqI⟩
    · exact hit1.at fun o' e => hs2.extBut I o' (Ne.symm hSI) e
    · exact hl1.extBut hs2.extBut (Ne.symm hSl)
    · refine hR h' tk (by rw [List.append_assoc] at hd'; exact hd') fun c oc h3 h4 e => k c oc h3 h4 (hs2.extBut c oc h3 (hs1.extBut c oc h4 e))
theorem call_dict_pairsT {s : Shared} {l : Addr} {ol : Obj} {items : Array Value} {n : Nat} {prs : List (List L2.Key × Addr × Value)} {Q : Value → Shared → Prop} (hh : A.handled = none) (hu : A.units + 5 < cLine) (hl : s.heap.get? l = some ol) (hc : ol.cls = .type "list") (hd : ol.dict = none)
    (hdat : ol.data = .seq items n) (hsz : items.size = prs.length) (hln : prs.length ≤ sizeLine) (hnd : (prs.map (·.1)).Nodup)
    (ht : ∀ (j : Nat) (q : List L2.Key × Addr × Value), prs[j]? = some q → ∃ b : Addr, items[j]? = some (.ref b) ∧ IsTup s.heap b #[.ref q.2.1, q.2.2] ∧ (tkd prog w).is s.heap q.1 q.2.1)
    (h : ∀ h' tk, h'.DictOfH (tkd prog w) s.heap.objs.size prs → (∀ b o, s.heap.get? b = some o → h'.get? b = some o) → Q (.ref s.heap.objs.size) { s with heap := h', toks := tk }) :
    wpAny (model prog w) A (call (.type "dict") [.ref l]) Q E s := by
  refine callType_codes (Q₁ := fun obj s₁ => obj = .ref s.heap.objs.size ∧ s₁ = { s with heap := s.heap.push { cls := .type "dict", data := .dict #[] } }) PySem.F.kt_called_dict (PySem.F.kt_typeCall_dict_1 _) PySem.F.entry_dict_init (kt_code_dict_new _ ⟨rfl, rfl⟩) ?_
  rintro obj s₁ ⟨rfl, rfl⟩
  have hnew : (s.heap.push { cls := .type "dict", data := .dict #[] }).DictOfH (tkd prog w) s.heap.objs.size [] := ⟨_, #[], 0, Heap.get?_push_size _ rfl, ⟨rfl, rfl, rfl⟩, rfl, rfl, fun x hx => absurd hx (by simp), List.nodup_nil⟩
  have hty : Shared.TypeIs { s with heap := s.heap.push { cls := .type "dict", data := .dict #[] } } (.ref s.heap.objs.size) "dict" := ⟨_, Heap.get?_push_size _ rfl, rfl⟩
  have k0 : ∀ b o, s.heap.get? b = some o → (s.heap.push { cls := .type "dict", data := .dict #[] }).get? b = some o := fun b o e => Heap.get?_push_of_some _ e
  refine ⟨hty, PySem.F.args_dict_init_2 _ _, ?_⟩
  unfold Builtin.«dict.__init__»
  refine wpAny_bind ?_
  unfold Builtin.Dict.selfAndRest
  refine wpAny_bind (wpAny_notOrdered_dict hty ?_)
  show wpAny _ _ (pure (s.heap.objs.size, [Value.ref l])) _ _ _
  refine wpAny_pure ?_
  show wpAny _ _ (Builtin.Dict.updateFrom "dict.__init__" s.heap.objs.size (.ref l) [] .none) _ _ _
  unfold Builtin.Dict.updateFrom
  refine wpAny_bind (wpAny_typeOf (T := "list") ⟨ol, k0 _ _ hl, hc⟩ ?_)
  rw [if_pos (by first | decide | rfl | simp)]
  refine wpAny_bind (miss_list (k0 _ _ hl) hc hdat hd hh fun h1 tk1 hk1 => ?_)
  rw [if_pos (show (none : Option Value).isNone = true from rfl)]
  refine wpAny_bind (wpAny_rule ?_)
  have hl1 : h1.IsList l items := ⟨ol, hk1 _ _ (k0 _ _ hl), hc, n, hdat⟩
  have hS1 : s.heap.objs.size < h1.objs.size := by
    have e : (s.heap.push { cls := .type "dict", data := .dict #[] }).get? s.heap.objs.size = some { cls := .type "dict", data := .dict #[] } := Heap.get?_push_size _ rfl
    exact Heap.lt_size (hk1 _ _ e)
  refine wpAny_bind (wpAny_pyIter_list hl1 ?_)
  have k2 : ∀ b o, h1.get? b = some o → (h1.push { cls := .type "list_iterator", data := .fields #[.ref l, .int 0 0] }).get? b = some o := fun b o e => Heap.get?_push_of_some _ e
  have hlt : l < s.heap.objs.size := Heap.lt_size hl
  have key := updT_loop (prog := prog) (w := w) (A := A.in1) (R := wants (fun r s₂ => r = .none ∧ Q (.ref s.heap.objs.size) s₂) E) (S := s.heap.objs.size) (I := h1.objs.size) (l := l) (items := items) (res := Value.none) hh
    (by show A.units + 1 + 1 < cLine; omega) (Nat.ne_of_lt (Nat.lt_trans hlt hS1)) (Nat.ne_of_lt hS1) (Nat.ne_of_gt hlt) prs 0 [] 0 0
    { s with heap := h1.push { cls := .type "list_iterator", data := .fields #[.ref l, .int 0 0] }, toks := tk1 } (by rw [hsz, Nat.zero_add]) (by rw [List.length_nil, Nat.zero_add]; exact hln) (by rw [List.nil_append]; exact hnd)
    (fun j q e => by
      obtain ⟨b, e1, e2, e3⟩ := ht j q e
      have hb : b < s.heap.objs.size := e2.lt
      have hq : q.2.1 < s.heap.objs.size := by obtain ⟨o, its, n, g, _⟩ := e3; exact Heap.lt_size g
      exact ⟨b, by rw [Nat.zero_add]; exact e1, Nat.ne_of_lt hb, Nat.ne_of_lt (Nat.lt_trans hb hS1), e2.keeps fun c o z => k2 _ _ (hk1 _ _ (k0 _ _ z)), tkd_keep e3 fun o z => k2 _ _ (hk1 _ _ (k0 _ _ z)), Nat.ne_of_lt hq, Nat.ne_of_lt (Nat.lt_trans hq hS1)⟩)
    (fun x hx => absurd hx (by simp))
    ⟨_, Heap.get?_push_size _ rfl, rfl, rfl⟩ (hl1.at fun o e => k2 _ _ e) (doh_at hnew fun b o hb e => k2 _ _ (hk1 _ _ e))
    (fun h' tk hd' k => ⟨rfl, h h' tk (by simpa using hd') fun b o e => k b o (Nat.ne_of_lt (Heap.lt_size e)) (Nat.ne_of_lt (Nat.lt_trans (Heap.lt_size e) hS1)) (k2 _ _ (hk1 _ _ (k0 _ _ e)))⟩)
  first
    | exact wpAny_pure ⟨plainId_quiet ud_plain _, key⟩
    | exact wpAny_bind (wpAny_pure (wpAny_pure ⟨plainId_quiet ud_plain _, key⟩))
end
end PM

namespace PM
open PySem PySem.Spec PyProof.Rows L2

/-! ### a dict made of pairs whose keys are tuples of ints -/
def pairsD : List D → Option (List (List Int) × List D)
  | [] => some ([], [])
  | .tup [.tup ks, v] :: r => (intsD ks).bind fun k => (pairsD r).map fun q => (k :: q.1, v :: q.2)
  | _ :: _ => none
def dictB : List D → Option D
  | [.lst ps] => (pairsD ps).bind fun q => if decide (q.1.Nodup) && decide (ps.length ≤ lim) then some (.dic q.1 q.2) else none
  | _ => none
/-- what a pair's parts are in the heap -/
structure PrAt (K : Frg) (ρ : List Addr) (G : Hp) (b : Addr) (k : List Int) (d : D) (a : Addr) (v : V) : Prop where
  pr : G b = some (.tup [.ref a, v])
  key : G a = some (.tup ((k.map Sum.inl).map kV))
  val : Rp K ρ G d v
theorem pairs_at {K : Frg} {ρ : List Addr} {G : Hp} : ∀ {ps : List D} {vs : List V} {ks : List (List Int)} {ds : List D}, Rps K ρ G ps vs → pairsD ps = some (ks, ds) →
    ∃ (bs as : List Addr) (us : List V), vs = bs.map V.ref ∧ bs.length = ks.length ∧ as.length = ks.length ∧ us.length = ks.length ∧ ds.length = ks.length ∧ Rps K ρ G ds us ∧
      ∀ (j : Nat) (b : Addr), bs[j]? = some b → ∃ k d a v, ks[j]? = some k ∧ ds[j]? = some d ∧ as[j]? = some a ∧ us[j]? = some v ∧ PrAt K ρ G b k d a v
  | [], _, ks, ds, .nil, h => by
    cases h
    exact ⟨[], [], [], rfl, rfl, rfl, rfl, rfl, .nil, fun j b h => by simp at h⟩
  | p :: ps, _, ks, ds, .cons ra rr, h => by
    unfold pairsD at h
    split at h
    · rename_i heq
      cases heq
    · rename_i kk v r heq
      cases heq
      simp only [Option.bind_eq_some_iff, Option.map_eq_some_iff] at h
      obtain ⟨k, hk, q, hq, e⟩ := h
      cases e
      obtain ⟨bs, as, us, e1, e2, e3, e4, e5, e6, e7⟩ := pairs_at rr hq
      cases ra with
      | @tup b _ ws sb rb =>
        obtain ⟨w1, w2, rfl, r1, r2⟩ := rb.two
        cases r1 with
        | @tup a _ xs sa rx =>
          have := rx.ints hk
          subst this
          refine ⟨b :: bs, a :: as, w2 :: us, by rw [e1]; rfl, by simp [e2], by simp [e3], by simp [e4], by simp [e5], .cons r2 e6, fun j b' hj => ?_⟩
          cases j with
          | zero =>
            have : b = b' := by simpa using hj
            subst this
            exact ⟨k, v, a, w2, rfl, rfl, rfl, rfl, sb, by rw [List.map_map]; exact sa, r2⟩
          | succ j =>
            obtain ⟨k', d', a', v', h1, h2, h3, h4, h5⟩ := e7 j b' (by simpa using hj)
            exact ⟨k', d', a', v', by simpa using h1, by simpa using h2, by simpa using h3, by simpa using h4, h5⟩
    · cases h
theorem paired_of {α β : Type} {F : α → β → Prop} : ∀ {l : List α} {m : List β}, l.length = m.length → (∀ (j : Nat) (a : α) (b : β), l[j]? = some a → m[j]? = some b → F a b) → Paired F l m
  | [], [], _, _ => .nil
  | [], _ :: _, h, _ => by simp at h
  | _ :: _, [], h, _ => by simp at h
  | a :: l, b :: m, h, k => .cons (k 0 a b rfl rfl) (paired_of (by simpa using h) fun j x y hx hy => k (j + 1) x y (by simpa using hx) (by simpa using hy))
theorem pick_list {α β : Type} {P : Nat → α → β → Prop} : ∀ (l : List α), (∀ j a, l[j]? = some a → ∃ b, P j a b) → ∃ m : List β, m.length = l.length ∧ ∀ j a, l[j]? = some a → ∃ b, m[j]? = some b ∧ P j a b := by
  intro l
  induction l generalizing P with
  | nil => intro _; exact ⟨[], rfl, fun j a h => by simp at h⟩
  | cons x l ih =>
    intro h
    obtain ⟨b, hb⟩ := h 0 x rfl
    obtain ⟨m, h1, h2⟩ := ih (P := fun j => P (j + 1)) fun j a hj => h (j + 1) a (by simpa using hj)
    refine ⟨b :: m, by simp [h1], fun j a hj => ?_⟩
    cases j with
    | zero =>
      have : x = a := by simpa using hj
      subst this
      exact ⟨b, rfl, hb⟩
    | succ j =>
      obtain ⟨c, h3, h4⟩ := h2 j a (by simpa using hj)
      exact ⟨c, by simpa using h3, h4⟩
section
variable {X : Cx} {nm : Nm}
theorem b_dict (hc : X.calm = true) (hu : X.A.units + 65 < cLine) : CallR X (.type "dict") (rBi X.K dictB) := by
  intro pins s σ H xs us Q I rv ⟨ρ, G, ds, d, hs, r, h, q⟩
  unfold dictB at h
  split at h
  · rename_i ps
    obtain ⟨v, rfl, a⟩ := r.one
    simp only [Option.bind_eq_some_iff, Option.ite_none_right_eq_some, Bool.and_eq_true, decide_eq_true_eq] at h
    obtain ⟨⟨ks, dv⟩, hp, ⟨hnd, hlen⟩, h⟩ := h
    cases h
    cases a with
    | @lst l _ vs sq rs =>
      obtain ⟨bs, as, ws, e1, e2, e3, e4, e5, e6, e7⟩ := pairs_at rs hp
      subst e1
      obtain ⟨its, rvs, pl, _⟩ := I.list (.inl (.inl (hs _ _ sq)) : SqL X.K H l (bs.map V.ref))
      have ei := refs_at rvs
      subst ei
      rw [Vals.ref1 rv]
      obtain ⟨o, n, ho, hcl, hd, hdat⟩ := pl
      -- the values behind
      have vals : ∀ (j : Nat) (b : Addr), bs[j]? = some b → ∃ (k : List Int) (a : Addr) (v : V) (u : Value), ks[j]? = some k ∧ as[j]? = some a ∧ ws[j]? = some v ∧ RelV v u ∧ IsTup s.heap b #[.ref a, u] ∧ H a = some (.tup ((k.map Sum.inl).map kV)) := by
        intro j b hj
        obtain ⟨k, d, a, v, h1, h2, h3, h4, h5⟩ := e7 j b hj
        obtain ⟨its, r2, ht, _⟩ := I.tuple (SqT.up hs h5.pr)
        obtain ⟨u1, u2, rfl, r3, r4⟩ := vals2 r2
        cases r3
        exact ⟨k, a, v, u2, h1, h3, h4, r4, ht, hs _ _ h5.key⟩
      obtain ⟨uu, hul, hU⟩ := pick_list (P := fun j b u => ∃ (k : List Int) (a : Addr) (v : V), ks[j]? = some k ∧ as[j]? = some a ∧ ws[j]? = some v ∧ RelV v u ∧ IsTup s.heap b #[.ref a, u] ∧ H a = some (.tup ((k.map Sum.inl).map kV))) bs fun j b hj => by
        obtain ⟨k, a, v, u, r⟩ := vals j b hj
        exact ⟨u, k, a, v, r⟩
      -- the entries
      let prs : List (List L2.Key × Addr × Value) := (ks.zip (as.zip uu)).map fun p => (p.1.map Sum.inl, p.2.1, p.2.2)
      have hpl : prs.length = bs.length := by simp [prs, e2, e3, hul]
      have hpj : ∀ (j : Nat) (q : List L2.Key × Addr × Value), prs[j]? = some q → ∃ b k a u, bs[j]? = some b ∧ ks[j]? = some k ∧ as[j]? = some a ∧ uu[j]? = some u ∧ q = (k.map Sum.inl, a, u) := by
        intro j q hq
        have hjl : j < bs.length := by rw [← hpl]; exact (List.getElem?_eq_some_iff.mp hq).1
        have hb : bs[j]? = some bs[j] := by simp [hjl]
        obtain ⟨u, h0, k, a, v, h1, h2, _⟩ := hU j _ hb
        have : prs[j]? = some (k.map Sum.inl, a, u) := by
          simp only [prs, List.getElem?_map]
          rw [List.getElem?_zip_eq_some (z := (k, a, u)) |>.mpr ⟨h1, List.getElem?_zip_eq_some (z := (a, u)) |>.mpr ⟨h2, h0⟩⟩]
          rfl
        rw [this] at hq
        cases hq
        exact ⟨_, k, a, u, hb, h1, h2, h0, rfl⟩
      have hkeys : prs.map (·.1) = ks.map fun k => k.map Sum.inl := by
        simp only [prs, List.map_map]
        have : (fun x : List Int × Addr × Value => (x.1.map (Sum.inl : Int → L2.Key))) = (fun k : List Int => k.map Sum.inl) ∘ Prod.fst := rfl
        show (ks.zip (as.zip uu)).map ((fun k : List Int => k.map (Sum.inl : Int → L2.Key)) ∘ Prod.fst) = _
        rw [← List.map_map, List.map_fst_zip (by simp [e2, e3, hul])]
      have hln : bs.length ≤ lim := by
        have := rs.length
        rw [List.length_map] at this
        omega
      refine call_dict_pairsT (prs := prs) (I.ok.hd hc) (by omega) ho hcl hd hdat (by simp [hpl]) (by rw [hpl]; exact Nat.le_trans hln lim_line) ?_ (fun j q' hq => ?_) fun h' tk hd' kp => ?_
      · rw [hkeys]
        exact List.pairwise_map.mpr (hnd.imp fun {x y} ne e => ne ((List.map_inj_right fun a b h => Sum.inl.inj h).mp e))
      · obtain ⟨b, k, a, u, h1, h2, h3, h4, rfl⟩ := hpj j q' hq
        obtain ⟨u', g0, k', a', v', g1, g2, g3, g4, g5, g6⟩ := hU j b h1
        rw [h4] at g0; rw [h2] at g1; rw [h3] at g2
        cases g0; cases g1; cases g2
        exact ⟨b, by simp [h1], g5, key_of I.hok g6⟩
      · have hn0 : H s.heap.objs.size = none := I.hok.fresh (Nat.le_refl _)
        let kvs : List (List L2.Key × V) := (ks.zip ws).map fun p => (p.1.map Sum.inl, p.2)
        have hkl : kvs.length = bs.length := by simp [kvs, e2, e4]
        obtain ⟨o2, es, ep, g1, g2, g3, g4, g5, g6⟩ := hd'
        have rel : Paired (fun (p : List L2.Key × V) (q : List L2.Key × Addr × Value) => p.1 = q.1 ∧ upd H s.heap.objs.size (.dT kvs) q.2.1 = some (.tup (p.1.map kV)) ∧ RelV p.2 q.2.2) kvs prs := by
          refine paired_of (by rw [hkl, hpl]) fun j p q hp hq => ?_
          obtain ⟨b, k, a, u, h1, h2, h3, h4, rfl⟩ := hpj j q hq
          obtain ⟨u', f0, k', a', v', f1, f2, f3, f4, f5, f6⟩ := hU j b h1
          rw [h4] at f0; rw [h2] at f1; rw [h3] at f2
          cases f0; cases f1; cases f2
          have : kvs[j]? = some (k.map Sum.inl, v') := by
            simp only [kvs, List.getElem?_map]
            rw [List.getElem?_zip_eq_some (z := (k, v')) |>.mpr ⟨h2, f3⟩]
            rfl
          rw [this] at hp
          cases hp
          exact ⟨rfl, by rw [upd_ne (ne_of_none f6 hn0)]; exact f6, f4⟩
        have new : ObjOk X.prog X.w (upd H s.heap.objs.size (.dT kvs)) h' s.heap.objs.size (.dT kvs) :=
          ⟨by rw [hkl]; exact Nat.le_trans hln lim_line, beq_eq_false_iff_ne.mpr (Nat.ne_of_gt I.big), prs, rel, o2, es, ep, g1, g2, g3, g4, g6⟩
        refine ⟨.ref s.heap.objs.size, upd H s.heap.objs.size (.dT kvs), I.laid (t' := tk) kp (Nat.le_refl _) new, rfl, ?_⟩
        refine q _ _ _ (.one hn0 (.dT kvs)) (.dic upd_same ?_ ?_)
        · simp only [kvs, List.map_map]
          show (ks.zip ws).map ((fun k : List Int => k.map (Sum.inl : Int → L2.Key)) ∘ Prod.fst) = _
          rw [← List.map_map, List.map_fst_zip (by rw [e4]; exact Nat.le_refl _)]
        · have : kvs.map (·.2) = ws := by
            simp only [kvs, List.map_map]
            show (ks.zip ws).map Prod.snd = _
            exact List.map_snd_zip (by rw [e4]; exact Nat.le_refl _)
          rw [this]
          exact e6.mono (Same.upd (hs.free hn0)) (Pre.refl _)
  · cases h
end
end PM

namespace PM
open PySem PySem.Spec PyProof.Rows L2

/-! ### zip of a list or a tuple with a list or a tuple -/
def itc (tp : Bool) : String := if tp then "tuple_iterator" else "list_iterator"
def ItA (tp : Bool) (h : Heap) (i l : Addr) (k : Nat) : Prop := if tp then h.IsTupleIter i l k else h.IsListIter i l k
def SrcA (tp : Bool) (h : Heap) (l : Addr) (xs : Array Value) : Prop := if tp then h.IsTuple l xs else h.IsList l xs
def SqG (tp : Bool) (K : Frg) (H : Hp) (a : Addr) (xs : List V) : Prop := if tp then SqT K H a xs else SqL K H a xs
theorem ItA.at' {tp : Bool} {h h' : Heap} {i l : Addr} {k : Nat} (x : ItA tp h i l k) (kp : ∀ o, h.get? i = some o → h'.get? i = some o) : ItA tp h' i l k := by
  cases tp with
  | true => exact Heap.IsTupleIter.at x kp
  | false => exact Heap.IsListIter.at x kp
theorem ItA.obj {tp : Bool} {h : Heap} {i l : Addr} {k : Nat} (x : ItA tp h i l k) : ∃ o, h.get? i = some o ∧ ∀ v, o.data ≠ .cell v := by
  cases tp with
  | true =>
    obtain ⟨o, e, _, d⟩ := (show h.IsTupleIter i l k from x)
    exact ⟨o, e, fun v q => by rw [d] at q; cases q⟩
  | false =>
    obtain ⟨o, e, _, d⟩ := (show h.IsListIter i l k from x)
    exact ⟨o, e, fun v q => by rw [d] at q; cases q⟩
theorem ItA.new {tp : Bool} {h : Heap} {i l : Addr} (e : h.get? i = some { cls := .type (itc tp), data := .fields #[.ref l, .int 0 0] }) : ItA tp h i l 0 := by
  cases tp with
  | true => exact ⟨_, e, rfl, rfl⟩
  | false => exact ⟨_, e, rfl, rfl⟩
theorem SrcA.at' {tp : Bool} {h h' : Heap} {l : Addr} {xs : Array Value} (x : SrcA tp h l xs) (kp : ∀ o, h.get? l = some o → h'.get? l = some o) : SrcA tp h' l xs := by
  cases tp with
  | true => exact Heap.IsTuple.at x kp
  | false => exact Heap.IsList.at x kp
theorem SrcA.lt {tp : Bool} {h : Heap} {l : Addr} {xs : Array Value} (x : SrcA tp h l xs) : l < h.objs.size := by
  cases tp with
  | true => obtain ⟨_, e, _⟩ := (show h.IsTuple l xs from x); exact Heap.lt_size e
  | false => obtain ⟨_, e, _⟩ := (show h.IsList l xs from x); exact Heap.lt_size e
theorem SqG.src {X : Cx} {pins : List (Addr × Obj)} {σ : L2.St} {H : Hp} {s : Shared} {tp : Bool} {a : Addr} {xs : List V} (I : Inv X pins σ H s) (h : SqG tp X.K H a xs) : ∃ its, Vals xs its ∧ SrcA tp s.heap a its.toArray ∧ its.length ≤ sizeLine := by
  cases tp with
  | true =>
    obtain ⟨its, rv, p, hz⟩ := I.tuple (show SqT X.K H a xs from h)
    exact ⟨its, rv, p, by have := rv.length; omega⟩
  | false =>
    obtain ⟨its, rv, p, hz⟩ := I.list (show SqL X.K H a xs from h)
    exact ⟨its, rv, p.isList, by have := rv.length; omega⟩
theorem SqG.inj {X : Cx} {pins : List (Addr × Obj)} {σ : L2.St} {H : Hp} {s : Shared} {tp : Bool} {a : Addr} {xs ys : List V} (I : Inv X pins σ H s) (h : SqG tp X.K H a xs) (k : SqG tp X.K H a ys) : xs = ys := by
  cases tp with
  | true => exact I.tuple_inj (show SqT X.K H a xs from h) k
  | false => exact I.list_inj (show SqL X.K H a xs from h) k
section
variable {prog : Program} {w : World} {A : Around} {E : Value → Shared → Prop} {s : Shared}
theorem drw {tp : Bool} (hh : A.handled = none) (i l : Addr) (hne : l ≠ i) (items : Array Value) : Draws prog w A i [i, l] items.size (fun j v => items[j]? = some v) (fun j h => ItA tp h i l j ∧ SrcA tp h l items) := by
  cases tp with
  | true => exact Draws.tuple hh i l hne items
  | false => exact Draws.list hh i l hne items
theorem pyIterA {tp : Bool} {l : Addr} {xs : Array Value} {Q : Value → Shared → Prop} (h : SrcA tp s.heap l xs) (q : Q (.ref s.heap.objs.size) { s with heap := s.heap.push { cls := .type (itc tp), data := .fields #[.ref l, .int 0 0] } }) : wpAny (model prog w) A (pyIter (.ref l)) Q E s := by
  cases tp with
  | true => exact wpAny_pyIter_tuple (show s.heap.IsTuple l xs from h) q
  | false => exact wpAny_pyIter_list (show s.heap.IsList l xs from h) q
end
abbrev zm1 (h : Heap) (t1 : Bool) (l1 : Addr) : Heap := h.push { cls := .type (itc t1), data := .fields #[.ref l1, .int 0 0] }
abbrev zm2 (h : Heap) (t1 t2 : Bool) (l1 l2 : Addr) : Heap := (zm1 h t1 l1).push { cls := .type (itc t2), data := .fields #[.ref l2, .int 0 0] }
abbrev zm3 (h : Heap) (t1 t2 : Bool) (l1 l2 : Addr) : Heap := (zm2 h t1 t2 l1 l2).push { cls := .type "tuple", data := .seq #[.ref h.objs.size, .ref (zm1 h t1 l1).objs.size] }
abbrev zm4 (h : Heap) (t1 t2 : Bool) (l1 l2 : Addr) : Heap := (zm3 h t1 t2 l1 l2).push { cls := .type "tuple", data := .seq #[.none, .none] }
abbrev zm5 (h : Heap) (t1 t2 : Bool) (l1 l2 : Addr) : Heap := (zm4 h t1 t2 l1 l2).push { cls := .type "zip", data := .fields #[.none, .bool false, .bool false, .ref (zm2 h t1 t2 l1 l2).objs.size, .ref (zm3 h t1 t2 l1 l2).objs.size] }
theorem zm_new (t1 t2 : Bool) (l1 l2 : Addr) (xs ys : Array Value) :
    Meets (Builtin.«zip.__new__» ⟨[.type "zip", .ref l1, .ref l2], []⟩) (fun _ R s => SrcA t1 s.heap l1 xs ∧ SrcA t2 s.heap l2 ys ∧ R (.ok (.ret (.ref (zm4 s.heap t1 t2 l1 l2).objs.size))) { s with heap := zm5 s.heap t1 t2 l1 l2 }) :=
  .of_wp fun prog w A R s h => by
    obtain ⟨hp, g, d, tk, os⟩ := s; obtain ⟨hl1, hl2, h⟩ := h
    have hsub := sub_zip
    have hL1 : SrcA t1 (Shared.heap ⟨hp, g, d, tk, os⟩) l1 xs := hl1
    have hL2 : SrcA t2 (Shared.heap ⟨hp.push { cls := .type (itc t1), data := .fields #[.ref l1, .int 0 0] }, g, d, tk, os⟩) l2 ys := hl2.at' fun o e => Heap.get?_push_of_some _ e
    wp_walk using pyIterA hL1, pyIterA hL2
    exact ⟨_, rfl, h⟩
section
variable {prog : Program} {w : World} {A : Around} {E : Value → Shared → Prop} {s : Shared}
theorem call_zm {t1 t2 : Bool} {l1 l2 : Addr} {xs ys : Array Value} {Q : Value → Shared → Prop} (hl1 : SrcA t1 s.heap l1 xs) (hl2 : SrcA t2 s.heap l2 ys)
    (h : ∀ h', IsZip h' (s.heap.objs.size + 4) (s.heap.objs.size + 2) (s.heap.objs.size + 3) .none → IsTupOf2 h' (s.heap.objs.size + 2) (.ref s.heap.objs.size) (.ref (s.heap.objs.size + 1)) →
      IsTupOf2 h' (s.heap.objs.size + 3) .none .none → ItA t1 h' s.heap.objs.size l1 0 → ItA t2 h' (s.heap.objs.size + 1) l2 0 → h'.objs.size = s.heap.objs.size + 5 →
      (∀ c o, s.heap.get? c = some o → h'.get? c = some o) → Q (.ref (s.heap.objs.size + 4)) { s with heap := h' }) :
    wpAny (model prog w) A (call (.type "zip") [.ref l1, .ref l2]) Q E s := by
  refine callType_new F.called_zip (by decide) (F.typeCall_zip_2 _ _) (F.newCall_zip_2 _ _) (fun obj => F.args_object_init_3 obj _ _) F.entry_zip_new (zm_new t1 t2 l1 l2 xs ys) ⟨hl1, hl2, ?_⟩
  have y1 : (zm1 s.heap t1 l1).objs.size = s.heap.objs.size + 1 := Heap.size_push ..
  have y2 : (zm2 s.heap t1 t2 l1 l2).objs.size = s.heap.objs.size + 2 := by rw [Heap.size_push, y1]
  have y3 : (zm3 s.heap t1 t2 l1 l2).objs.size = s.heap.objs.size + 3 := by rw [Heap.size_push, y2]
  have y4 : (zm4 s.heap t1 t2 l1 l2).objs.size = s.heap.objs.size + 4 := by rw [Heap.size_push, y3]
  have y5 : (zm5 s.heap t1 t2 l1 l2).objs.size = s.heap.objs.size + 5 := by rw [Heap.size_push, y4]
  have up : ∀ {a : Heap} {x : Obj} {c : Addr} {o : Obj}, a.get? c = some o → (a.push x).get? c = some o := fun e => Heap.get?_push_of_some _ e
  have g5 : (zm5 s.heap t1 t2 l1 l2).get? (zm4 s.heap t1 t2 l1 l2).objs.size = some _ := Heap.get?_push_size _ rfl
  have g4 : (zm5 s.heap t1 t2 l1 l2).get? (zm3 s.heap t1 t2 l1 l2).objs.size = some _ := up (Heap.get?_push_size _ rfl)
  have g3 : (zm5 s.heap t1 t2 l1 l2).get? (zm2 s.heap t1 t2 l1 l2).objs.size = some _ := up (up (Heap.get?_push_size _ rfl))
  have g2 : (zm5 s.heap t1 t2 l1 l2).get? (zm1 s.heap t1 l1).objs.size = some _ := up (up (up (Heap.get?_push_size _ rfl)))
  have g1 : (zm5 s.heap t1 t2 l1 l2).get? s.heap.objs.size = some _ := up (up (up (up (Heap.get?_push_size _ rfl))))
  show _ ∧ _
  rw [y2, y3, y4] at g5
  rw [y1, y2] at g3
  rw [y3] at g4
  rw [y1] at g2
  rw [y4]
  exact ⟨⟨_, g5, rfl⟩, h _ g5 g3 g4 (ItA.new g1) (ItA.new g2) y5 fun c o x => up (up (up (up (up x))))⟩
end
theorem nin2 {x a b : Nat} (h1 : x ≠ a) (h2 : x ≠ b) : (x : Addr) ∉ ([a, b] : List Addr) := fun m => by
  rcases List.mem_cons.mp m with e | m
  · exact h1 e
  · rcases List.mem_cons.mp m with e | m
    · exact h2 e
    · cases m
/-- the cells stand apart -/
theorem zsep (I l1 l2 : Nat) (h1 : l1 < I) (h2 : l2 < I) : ZipSep2 (I + 4) (I + 2) (I + 3) I (I + 1) [I, l1] [I + 1, l2] := by
  constructor <;> first
    | (intro e; have e' : (_ : Nat) = _ := e; omega)
    | (simp; done)
    | (refine nin2 ?_ ?_ <;> omega)
end PM

namespace PM
open PySem PySem.Spec PyProof.Rows L2
def ItzM (K : Frg) (t1 t2 : Bool) (a b : Addr) : It :=
  ⟨fun i H => ∃ (xs ys : List V) (x y : V), SqG t1 K H a xs ∧ SqG t2 K H b ys ∧ xs[i]? = some x ∧ ys[i]? = some y,
    fun i H v H' => ∃ T x y, v = .ref T ∧ H T = none ∧ H' = upd H T (.tup [x, y]) ∧ (∀ xs, SqG t1 K H a xs → xs[i]? = some x) ∧ ∀ ys, SqG t2 K H b ys → ys[i]? = some y,
    fun i H => ∃ xs ys : List V, SqG t1 K H a xs ∧ SqG t2 K H b ys ∧ i ≤ xs.length ∧ i ≤ ys.length ∧ (xs.length ≤ i ∨ ys.length ≤ i)⟩
theorem turn_zm {P : Program} {w : World} {K : Frg} {elts : List Expr} {kk : Nat} {tpos : Pos} {t1 t2 : Bool} {a b z TI TO i1 i2 : Addr} (D : ZipSep2 z TI TO i1 i2 [i1, a] [i2, b]) :
    Turn P w K (.Tuple elts kk tpos) (ItzM K t1 t2 a b) [z, TI, TO, i1, i2] z (fun i h => IsZip h z TI TO .none ∧ IsTupOf2 h TI (.ref i1) (.ref i2) ∧ (∃ x y, IsTupOf2 h TO x y) ∧ ItA t1 h i1 a i ∧ ItA t2 h i2 b i) where
  mem := by simp
  obj := fun i h st c hc => by
    obtain ⟨hz, hTI, ⟨x, y, hTO⟩, h1, h2⟩ := st
    have e' : c = z ∨ c = TI ∨ c = TO ∨ c = i1 ∨ c = i2 := by simpa using hc
    rcases e' with q | q | q | q | q <;> rw [q]
    · exact ⟨_, hz, fun v q => nomatch q⟩
    · exact ⟨_, hTI, fun v q => nomatch q⟩
    · exact ⟨_, hTO, fun v q => nomatch q⟩
    · exact h1.obj
    · exact h2.obj
  keep := fun i h h' st k => by
    obtain ⟨hz, hTI, ⟨x, y, hTO⟩, h1, h2⟩ := st
    exact ⟨k z (by simp) _ hz, k TI (by simp) _ hTI, ⟨x, y, k TO (by simp) _ hTO⟩, h1.at' fun o q => k i1 (by simp) o q, h2.at' fun o q => k i2 (by simp) o q⟩
  item := by
    intro X hP hw hK hc i pins s σ H E I hf st hg
    subst hP hw hK
    obtain ⟨hz, hTI, ⟨x0, y0, hTO⟩, h1, h2⟩ := st
    obtain ⟨xs, ys, x, y, hqx, hqy, hx, hy⟩ := hg
    obtain ⟨its, rv, p, _⟩ := hqx.src I
    obtain ⟨its2, rv2, p2, _⟩ := hqy.src I
    obtain ⟨u, hu, ru⟩ := rv.get hx
    obtain ⟨u2, hu2, ru2⟩ := rv2.get hy
    have hzl : z < s.heap.objs.size := Heap.lt_size hz
    have na : a ≠ i1 := fun e => by
      have := D.zf1
      obtain ⟨o, e1, _⟩ := h1.obj
      cases t1 with
      | true =>
        obtain ⟨o1, g1, c1, _⟩ := (show s.heap.IsTuple a _ from p)
        obtain ⟨o2, g2, c2, _⟩ := (show s.heap.IsTupleIter i1 a i from h1)
        rw [e, g2] at g1
        cases g1
        rw [c1] at c2
        exact absurd (Value.type.inj c2) (by decide)
      | false =>
        obtain ⟨o1, g1, c1, _⟩ := (show s.heap.IsList a _ from p)
        obtain ⟨o2, g2, c2, _⟩ := (show s.heap.IsListIter i1 a i from h1)
        rw [e, g2] at g1
        cases g1
        rw [c1] at c2
        exact absurd (Value.type.inj c2) (by decide)
    have nb : b ≠ i2 := fun e => by
      cases t2 with
      | true =>
        obtain ⟨o1, g1, c1, _⟩ := (show s.heap.IsTuple b _ from p2)
        obtain ⟨o2, g2, c2, _⟩ := (show s.heap.IsTupleIter i2 b i from h2)
        rw [e, g2] at g1
        cases g1
        rw [c1] at c2
        exact absurd (Value.type.inj c2) (by decide)
      | false =>
        obtain ⟨o1, g1, c1, _⟩ := (show s.heap.IsList b _ from p2)
        obtain ⟨o2, g2, c2, _⟩ := (show s.heap.IsListIter i2 b i from h2)
        rw [e, g2] at g1
        cases g1
        rw [c1] at c2
        exact absurd (Value.type.inj c2) (by decide)
    have l1 : i < its.toArray.size := by simpa using (List.getElem?_eq_some_iff.mp hu).1
    have l2 : i < its2.toArray.size := by simpa using (List.getElem?_eq_some_iff.mp hu2).1
    refine wpAny_pyNext_zipD2_item D (drw (A := X.A.in1) (I.ok.hd hc) i1 a na its.toArray) (drw (A := X.A.in1) (I.ok.hd hc) i2 b nb its2.toArray) hz hTI hTO ⟨h1, p⟩ ⟨h2, p2⟩ l1 l2 fun w1 w2 h' tk q1 q2 z' TO' st1 st2 hT hsz hk => ?_
    have q1 : its[i]? = some w1 := by simpa using q1
    have q2 : its2[i]? = some w2 := by simpa using q2
    rw [hu] at q1; rw [hu2] at q2
    cases q1; cases q2
    refine ⟨_, rfl, wpAny_letOwnedTupleGo_zip (s := { s with heap := h', toks := tk }) z' fun h'' z'' sb => ?_⟩
    have hT2 : h''.get? s.heap.objs.size = some { cls := .type "tuple", data := .seq #[u, u2] } := (sb.2 _ (Nat.ne_of_gt hzl)).trans hT
    have new : ObjOk X.prog X.w (upd H s.heap.objs.size (.tup [x, y])) h'' s.heap.objs.size (.tup [x, y]) :=
      ⟨by show 2 ≤ sizeLine; decide, [u, u2], .cons ru (.cons ru2 .nil), ⟨_, hT2, rfl, _, rfl⟩⟩
    have I1 : Inv X pins σ (upd H s.heap.objs.size (.tup [x, y])) { s with heap := h'', toks := tk } :=
      I.turnedNew (t' := tk) (ch := [z, TI, TO, i1, i2]) (fun c o hb q => (sb.2 c (fun q' => hb (by simp [q']))).trans (hk c o (fun q' => hb (by simp [q'])) (fun q' => hb (by simp [q'])) (fun q' => hb (by simp [q'])) (fun q' => hb (by simp [q'])) q)) hf (Nat.le_refl _) new
    refine ⟨.ref s.heap.objs.size, _, I1, rfl, ⟨_, x, y, rfl, I.hok.fresh (Nat.le_refl _), rfl, fun l hl => by rw [SqG.inj I hl hqx]; exact hx, fun l hl => by rw [SqG.inj I hl hqy]; exact hy⟩, ⟨z'', ?_, ⟨u, u2, ?_⟩, ?_, ?_⟩, fun c hcm => ?_⟩
    · exact (sb.2 _ D.TIz).trans (hk _ _ D.TIz D.TITO D.TIi1 D.TIi2 hTI)
    · exact (sb.2 _ D.TOz).trans TO'
    · exact st1.1.at' fun o q => (sb.2 _ D.zi1.symm).trans q
    · exact st2.1.at' fun o q => (sb.2 _ D.zi2.symm).trans q
    · have hlt : c < s.heap.objs.size := by
        have e' : c = z ∨ c = TI ∨ c = TO ∨ c = i1 ∨ c = i2 := by simpa using hcm
        rcases e' with q | q | q | q | q
        · rw [q]; exact hzl
        · rw [q]; exact Heap.lt_size hTI
        · rw [q]; exact Heap.lt_size hTO
        · rw [q]; obtain ⟨_, e1, _⟩ := h1.obj; exact Heap.lt_size e1
        · rw [q]; obtain ⟨_, e2, _⟩ := h2.obj; exact Heap.lt_size e2
      rw [upd_ne (Nat.ne_of_lt hlt)]
      exact (hf c hcm).1
  done := by
    intro X hP hw hK hc i pins s σ H E I hf st hg
    subst hP hw hK
    obtain ⟨hz, hTI, ⟨x0, y0, hTO⟩, h1, h2⟩ := st
    obtain ⟨xs, ys, hqx, hqy, hi1, hi2, hend⟩ := hg
    obtain ⟨its, rv, p, _⟩ := hqx.src I
    obtain ⟨its2, rv2, p2, _⟩ := hqy.src I
    have l1 := rv.length
    have l2 := rv2.length
    have na : a ≠ i1 := fun e => by
      cases t1 with
      | true =>
        obtain ⟨o1, g1, c1, _⟩ := (show s.heap.IsTuple a _ from p)
        obtain ⟨o2, g2, c2, _⟩ := (show s.heap.IsTupleIter i1 a i from h1)
        rw [e, g2] at g1
        cases g1
        rw [c1] at c2
        exact absurd (Value.type.inj c2) (by decide)
      | false =>
        obtain ⟨o1, g1, c1, _⟩ := (show s.heap.IsList a _ from p)
        obtain ⟨o2, g2, c2, _⟩ := (show s.heap.IsListIter i1 a i from h1)
        rw [e, g2] at g1
        cases g1
        rw [c1] at c2
        exact absurd (Value.type.inj c2) (by decide)
    have nb : b ≠ i2 := fun e => by
      cases t2 with
      | true =>
        obtain ⟨o1, g1, c1, _⟩ := (show s.heap.IsTuple b _ from p2)
        obtain ⟨o2, g2, c2, _⟩ := (show s.heap.IsTupleIter i2 b i from h2)
        rw [e, g2] at g1
        cases g1
        rw [c1] at c2
        exact absurd (Value.type.inj c2) (by decide)
      | false =>
        obtain ⟨o1, g1, c1, _⟩ := (show s.heap.IsList b _ from p2)
        obtain ⟨o2, g2, c2, _⟩ := (show s.heap.IsListIter i2 b i from h2)
        rw [e, g2] at g1
        cases g1
        rw [c1] at c2
        exact absurd (Value.type.inj c2) (by decide)
    exact wpAny_pyNext_zipD2_end D (drw (A := X.A.in1) (I.ok.hd hc) i1 a na its.toArray) (drw (A := X.A.in1) (I.ok.hd hc) i2 b nb its2.toArray) hz hTI hTO ⟨h1, p⟩ ⟨h2, p2⟩ (by simp; omega) (by simp; omega) (by simp; omega) fun h' tk hk => ⟨rfl, I.turnedL (t' := tk) (ch := [z, TI, TO, i1, i2]) (fun c o hb q =>
      hk c o (fun q' => hb (by simp [q'])) (fun q' => hb (by simp [q'])) (fun q' => hb (by simp [q'])) (fun q' => hb (by simp [q'])) q) hf⟩
  self := fun A i s Q E st h => wpAny_pyIter_zip st.1 h
section
variable {K : Frg} {ρ : List Addr} {G : Hp} {ds es : List D} {vs ws : List V} {a b : Addr}
def SeqAt' (tp : Bool) (G : Hp) (a : Addr) (vs : List V) : Prop := if tp then G a = some (.tup vs) else G a = some (.lst vs)
theorem SeqAt'.sq {tp : Bool} {H : Hp} (s : Same G H) (h : SeqAt' tp G a vs) : SqG tp K H a vs := by
  cases tp with
  | true => exact SqT.up s (show G a = some (.tup vs) from h)
  | false => exact .inl (.inl (s _ _ (show G a = some (.lst vs) from h)))
theorem walkD_zm {t1 t2 : Bool} (h1 : SeqAt' t1 G a vs) (h2 : SeqAt' t2 G b ws) (rd : Rps K ρ G ds vs) (re : Rps K ρ G es ws) : WalkD (ItzM K t1 t2 a b) K ρ G ((ds.zip es).map fun p => .tup [p.1, p.2]) where
  go := fun i H hi s => by
    have hi : i < vs.length ∧ i < ws.length := by rw [← rd.length, ← re.length]; simp at hi; omega
    exact ⟨vs, ws, vs[i], ws[i], h1.sq s, h2.sq s, by simp [hi.1], by simp [hi.2]⟩
  stop := fun H s => ⟨vs, ws, h1.sq s, h2.sq s, by simp [← rd.length, ← re.length]; omega, by simp [← rd.length, ← re.length]; omega, by simp [← rd.length, ← re.length]; omega⟩
  yld := fun i H x H' d hd s y ρ1 G1 g1 gh p => by
    obtain ⟨T, u, v, rfl, hT, rfl, y1, y2⟩ := y
    rw [List.getElem?_map] at hd
    obtain ⟨q, hq, rfl⟩ := Option.map_eq_some_iff.mp hd
    obtain ⟨q1, q2⟩ := List.getElem?_zip_eq_some.mp hq
    have hn := gh.free hT
    have r1 := rd.at' q1 (y1 vs (h1.sq s))
    have r2 := re.at' q2 (y2 ws (h2.sq s))
    exact ⟨_, .one hT _, .tup upd_same (.cons ((r1.mono g1 p).mono (Same.upd hn) (Pre.refl _)) (.cons ((r2.mono g1 p).mono (Same.upd hn) (Pre.refl _)) .nil))⟩
/-- the two arguments of a zip -/
theorem zipDs_two {l : List D} {xs : List V} (r : Rps K ρ G ds xs) (h : zipDs ds = some l) : ∃ t1 t2 a b d1 d2 vs ws, xs = [.ref a, .ref b] ∧ SeqAt' t1 G a vs ∧ SeqAt' t2 G b ws ∧ Rps K ρ G d1 vs ∧ Rps K ρ G d2 ws ∧ l = (d1.zip d2).map fun p => .tup [p.1, p.2] := by
  unfold zipDs at h
  split at h
  · obtain ⟨v, v', rfl, r1, r2⟩ := r.two
    unfold zipD at h
    split at h
    · cases r1; cases r2; cases h; rename_i s1 q1 _ _ _ s2 q2; exact ⟨true, true, _, _, _, _, _, _, rfl, by assumption, by assumption, by assumption, by assumption, rfl⟩
    · cases r1; cases r2; cases h; exact ⟨false, false, _, _, _, _, _, _, rfl, by assumption, by assumption, by assumption, by assumption, rfl⟩
    · cases r1; cases r2; cases h; exact ⟨false, true, _, _, _, _, _, _, rfl, by assumption, by assumption, by assumption, by assumption, rfl⟩
    · cases r1; cases r2; cases h; exact ⟨true, false, _, _, _, _, _, _, rfl, by assumption, by assumption, by assumption, by assumption, rfl⟩
    · cases h
  · cases h
end
section
variable {X : Cx} {nm : Nm} {W : WX} {pos : Pos} {a b c : Expr} {es : List Expr} {ga : Ev → List MO → Out (List D)}
theorem sI_zip {p tpos : Pos} {elts : List Expr} {kk : Nat} (hg : Gl X "zip") (hm : X.mg "zip" = none) (hx : PA X [a, b] (tA nm X.K W ga)) (hs : starEach [a, b] X.env = (false, eval a X.env) :: starEach [b] X.env) (hpl : (backTo pos (starEach [b] X.env)).any (·.1) = false) :
    PI X (.Tuple elts kk tpos) (.Call (.Name "zip" p) [a, b] [] pos) (tI nm X.K W fun e M => (ga e M).bind fun ds e M => lift (zipDs ds) e M) := by
  refine ⟨fun pins s σ H R I ⟨fr, ρ, G, e, M, r, h⟩ => ?_⟩
  refine Call_ (ld_blt I hg hm PyProof.Rows.boot_zip (PyProof.Rows.callWith_type1 (thn (hx.run pos pins s σ H (fun vs H1 => ∃ ρ1 G1 e1 M1 ds, SR nm X.K fr ρ1 G1 e1 M1 σ H1 ∧ Rps X.K ρ1 G1 ds vs ∧ pG nm X.K fr W (gdI nm X.K fr σ R) ρ1 G1 (lift (zipDs ds) e1 M1)) I
    (tA.bind gdI_mono r h fun ρ1 G1 e1 M1 ds vs H1 g1 p1 s1 r1 h1 => ⟨ρ1, G1, e1, M1, ds, s1, r1, h1⟩)) fun us s1 ⟨vs, H1, I1, rv, ρ1, G1, e1, M1, ds, s2, rd, h1⟩ => ?_) hs hpl))
  cases q : zipDs ds with
  | none => rw [q] at h1; exact h1.elim
  | some l =>
    rw [q] at h1
    obtain ⟨t1, t2, p1, p2, d1, d2, ws1, ws2, rfl, k1, k2, r1, r2, rfl⟩ := zipDs_two rd q
    obtain ⟨u1, u2, rfl, ru1, ru2⟩ := vals2 rv
    cases ru1; cases ru2
    obtain ⟨i1, v1, g1, z1⟩ := (k1.sq s2.wf.sub : SqG t1 X.K H1 p1 ws1).src I1
    obtain ⟨i2, v2, g2, z2⟩ := (k2.sq s2.wf.sub : SqG t2 X.K H1 p2 ws2).src I1
    refine call_zm g1 g2 fun h' hz hTI hTO a1 a2 hsz hk => wpAny_pyIter_zip hz ?_
    have I2 : Inv X pins σ H1 { s1 with heap := h' } := I1.kept (t' := s1.toks) hk
    refine ⟨s1.heap.objs.size + 4, [s1.heap.objs.size + 4, s1.heap.objs.size + 2, s1.heap.objs.size + 3, s1.heap.objs.size, s1.heap.objs.size + 1], _, _, H1, rfl, I2, turn_zm (t1 := t1) (t2 := t2) (zsep s1.heap.objs.size p1 p2 g1.lt g2.lt), ⟨hz, hTI, ⟨_, _, hTO⟩, a1, a2⟩, fun c hcm => ?_, h1 _ H1 G1 ρ1 (Same.refl _) (Pre.refl _) s2 (walkD_zm k1 k2 r1 r2)⟩
    have e' : c = s1.heap.objs.size + 4 ∨ c = s1.heap.objs.size + 2 ∨ c = s1.heap.objs.size + 3 ∨ c = s1.heap.objs.size ∨ c = s1.heap.objs.size + 1 := by simpa using hcm
    have hle : s1.heap.objs.size ≤ c := by
      rcases e' with z | z | z | z | z <;> rw [z] <;> first | exact Nat.le_add_right _ _ | exact Nat.le_refl _
    exact I1.fpOk hle (I1.hok.fresh hle)
theorem takeN {pins : List (Addr × Obj)} {σ : L2.St} {G0 H0 Hs : Hp} {s : Shared} {h' : Heap} {tk : Nat} (I0 : Inv X pins σ Hs s) : ∀ (L : List (Addr × List V)) (G1 H1 : Hp), New G0 H0 G1 H1 → Inv X pins σ H1 { s with heap := h', toks := tk } → (L.map (·.1)).Nodup →
    (∀ q ∈ L, s.heap.objs.size ≤ q.1 ∧ H1 q.1 = none ∧ ∀ H2, ObjOk X.prog X.w H2 h' q.1 (.tup q.2)) → Same G1 H1 →
    ∃ G2 H2, New G0 H0 G2 H2 ∧ Same G1 G2 ∧ Inv X pins σ H2 { s with heap := h', toks := tk } ∧ ∀ q ∈ L, G2 q.1 = some (.tup q.2)
  | [], G1, H1, n, I1, _, _, _ => ⟨G1, H1, n, Same.refl _, I1, fun _ h => nomatch h⟩
  | q :: L, G1, H1, n, I1, hn, h, hs => by
    obtain ⟨hb, hnone, ok⟩ := h q (List.mem_cons_self ..)
    have I2 : Inv X pins σ (upd H1 q.1 (.tup q.2)) { s with heap := h', toks := tk } := I1.take (h' := h') (t' := tk) (fun b ob _ e => e) (I0.fpOk hb hnone) (ok _)
    rw [List.map_cons, List.nodup_cons] at hn
    have hg := hs.free hnone
    obtain ⟨G2, H2, n2, g, I3, r⟩ := takeN I0 L (upd G1 q.1 (.tup q.2)) (upd H1 q.1 (.tup q.2)) (.step q.1 _ (fun _ z => by cases z) n hnone) I2 hn.2 (fun c hc => by
      obtain ⟨c1, c2, c3⟩ := h c (List.mem_cons_of_mem _ hc)
      exact ⟨c1, by rw [upd_ne (fun z => hn.1 (by rw [← z]; exact List.mem_map.mpr ⟨c, hc, rfl⟩))]; exact c2, c3⟩) (fun b u e => by
      by_cases hbq : b = q.1
      · subst hbq; rw [upd_same] at e ⊢; exact e
      · rw [upd_ne hbq] at e ⊢; exact hs b u e)
    refine ⟨G2, H2, n2, (Same.upd hg).trans g, I3, fun c hc => ?_⟩
    rcases List.mem_cons.mp hc with rfl | hc
    · exact g _ _ upd_same
    · exact r c hc
theorem Rps.of_get {K : Frg} {ρ : List Addr} {G : Hp} {ds : List D} {vs : List V} (hl : ds.length = vs.length) (h : ∀ (j : Nat) d v, ds[j]? = some d → vs[j]? = some v → Rp K ρ G d v) : Rps K ρ G ds vs := .of_paired (paired_of hl h)
/-- the list that list(zip(..)) has made is tracked -/
theorem lzip_end {fr : Fr} {ρ : List Addr} {G H : Hp} {e : Ev} {M : List MO} {σ : L2.St} {pins : List (Addr × Obj)} {s : Shared} {h'' : Heap} {tk : Nat} {S : Addr} {z TO i1 i2 : Addr} {t1 t2 : Bool} {p1 p2 : Addr} {d1 d2 : List D} {ws1 ws2 : List V} {l1 l2 : List Value} {acc : Array Value} {c : Nat} {P : Prop}
    (I : Inv X pins σ H s) (r : SR nm X.K fr ρ G e M σ H) (k1 : SeqAt' t1 G p1 ws1) (k2 : SeqAt' t2 G p2 ws2) (r1 : Rps X.K ρ G d1 ws1) (r2 : Rps X.K ρ G d2 ws2) (v1 : Vals ws1 l1) (v2 : Vals ws2 l2) (hS : s.heap.objs.size ≤ S) (keep : ∀ b o, s.heap.get? b = some o → h''.get? b = some o)
    (hL : h''.get? S = some { cls := .type "list", dict := none, data := .seq acc c, slots := #[] }) (hsz : acc.size = min l1.length l2.length)
    (hacc : ZAcc (fun j v => l1.toArray[j]? = some v) (fun j v => l2.toArray[j]? = some v) z TO i1 i2 S (S + 1) h'' acc) (hlim : ((d1.zip d2).map fun p => D.tup [p.1, p.2]).length ≤ lim)
    (h : ∀ H2 G2, New G H G2 H2 → Inv X pins σ H2 { s with heap := h'', toks := tk } → Rp X.K ρ G2 (.lst ((d1.zip d2).map fun p => .tup [p.1, p.2])) (.ref S) → P) : P := by
  have e1 := v1.length
  have e2 := v2.length
  have e3 := r1.length
  have e4 := r2.length
  obtain ⟨L, hLl, hLs⟩ := pick_list (P := fun j (v : Value) (q : Addr × List V) => ∃ x y u w, v = .ref q.1 ∧ q.2 = [x, y] ∧ ws1[j]? = some x ∧ ws2[j]? = some y ∧ RelV x u ∧ RelV y w ∧ IsTupOf2 h'' q.1 u w ∧ q.1 ≠ S ∧ S + 1 ≤ q.1) acc.toList fun j v hj => by
    have hjl : j < acc.size := by simpa using (List.getElem?_eq_some_iff.mp hj).1
    obtain ⟨T, u, w, q1, q2, q3, q4, _, _, _, _, q9, q10⟩ := hacc.2 j hjl
    have ev : v = .ref T := by
      rw [← q1]
      have := (List.getElem?_eq_some_iff.mp hj).2
      rw [← this]; simp
    have q3 : l1[j]? = some u := by simpa using q3
    have q4 : l2[j]? = some w := by simpa using q4
    have j1 : j < ws1.length := by rw [e1]; exact (List.getElem?_eq_some_iff.mp q3).1
    have j2 : j < ws2.length := by rw [e2]; exact (List.getElem?_eq_some_iff.mp q4).1
    obtain ⟨u', hu, ru⟩ := v1.get (i := j) (x := ws1[j]) (by simp [j1])
    obtain ⟨w', hw, rw'⟩ := v2.get (i := j) (x := ws2[j]) (by simp [j2])
    rw [q3] at hu; rw [q4] at hw
    cases hu; cases hw
    exact ⟨(T, [ws1[j], ws2[j]]), ws1[j], ws2[j], u, w, ev, rfl, by simp [j1], by simp [j2], ru, rw', q2, q9, q10⟩
  have eacc : acc.toList = (L.map (·.1)).map Value.ref := by
    refine List.ext_getElem? fun j => ?_
    cases q : acc.toList[j]? with
    | none =>
      have : L.length ≤ j := by rw [hLl]; exact List.getElem?_eq_none_iff.mp q
      simp [List.getElem?_eq_none this]
    | some v =>
      obtain ⟨b, hb, x, y, u, w, ev, _⟩ := hLs j v q
      rw [List.getElem?_map, List.getElem?_map, hb, ev]; rfl
  have hnd : (L.map (·.1)).Nodup := by
    have := hacc.1
    rw [eacc] at this
    exact (List.pairwise_map.mp this).imp fun h z => h (congrArg Value.ref z)
  have hnS : H S = none := I.hok.fresh hS
  have I3 : Inv X pins σ H { s with heap := h'', toks := tk } := I.kept (t' := tk) keep
  have hlen : (L.map (fun q => V.ref q.1)).length ≤ sizeLine := by
    simp at hlim
    simp [hLl]
    have := lim_line
    omega
  have I4 : Inv X pins σ (upd H S (.lst (L.map fun q => V.ref q.1))) { s with heap := h'', toks := tk } := I3.take (h' := h'') (t' := tk) (fun b ob _ e => e) (I.fpOk hS hnS)
    (show ObjOk X.prog X.w _ h'' S (.lst _) from ⟨hlen, acc.toList, c, by
      rw [eacc]
      have : ∀ l : List (Addr × List V), Vals (l.map fun q => V.ref q.1) ((l.map (·.1)).map Value.ref) := by
        intro l
        induction l with
        | nil => exact .nil
        | cons q l ih => exact .cons rfl ih
      exact this L, by simpa using hL⟩)
  have mem : ∀ q ∈ L, ∃ j x y u w, L[j]? = some q ∧ q.2 = [x, y] ∧ ws1[j]? = some x ∧ ws2[j]? = some y ∧ RelV x u ∧ RelV y w ∧ IsTupOf2 h'' q.1 u w ∧ q.1 ≠ S ∧ S + 1 ≤ q.1 := fun q hq => by
    obtain ⟨j, hj, ej⟩ := List.getElem_of_mem hq
    have hj' : j < acc.toList.length := by rw [← hLl]; exact hj
    obtain ⟨b, hb, x, y, u, w, ev, r⟩ := hLs j acc.toList[j] (by simp [hj'])
    have : b = q := by
      rw [List.getElem?_eq_getElem hj] at hb
      rw [← ej]; exact (Option.some.inj hb).symm
    subst this
    exact ⟨j, x, y, u, w, by rw [List.getElem?_eq_getElem hj, ej], r⟩
  have sub1 : Same (upd G S (.lst (L.map fun q => V.ref q.1))) (upd H S (.lst (L.map fun q => V.ref q.1))) := fun b u e => by
    by_cases hb : b = S
    · subst hb; rw [upd_same] at e ⊢; exact e
    · rw [upd_ne hb] at e ⊢; exact r.wf.sub b u e
  obtain ⟨G2, H2, n2, g2, I5, hT⟩ := takeN I L (upd G S (.lst (L.map fun q => V.ref q.1))) (upd H S (.lst (L.map fun q => V.ref q.1))) (.one hnS _) I4 hnd (fun q hq => by
    obtain ⟨j, x, y, u, w, _, e2, _, _, ru, rw', ht, hne, hge⟩ := mem q hq
    have hge' : s.heap.objs.size ≤ q.1 := Nat.le_trans hS (Nat.le_of_succ_le hge)
    refine ⟨hge', by rw [upd_ne hne]; exact I.hok.fresh hge', fun H2 => ?_⟩
    rw [e2]
    exact ⟨by show 2 ≤ sizeLine; decide, [u, w], .cons ru (.cons rw' .nil), ⟨_, ht, rfl, _, rfl⟩⟩) sub1
  refine h H2 G2 n2 I5 (.lst (g2 _ _ upd_same) ?_)
  have gg : Same G G2 := (Same.upd (r.wf.none_of hnS)).trans g2
  refine Rps.of_get (by simp [hLl, hsz]; omega) fun j d v hd hv => ?_
  rw [List.getElem?_map] at hd hv
  obtain ⟨q, hq, rfl⟩ := Option.map_eq_some_iff.mp hv
  obtain ⟨pq, hpq, rfl⟩ := Option.map_eq_some_iff.mp hd
  obtain ⟨hz1, hz2⟩ := List.getElem?_zip_eq_some.mp hpq
  have hj' : j < acc.toList.length := by rw [← hLl]; exact (List.getElem?_eq_some_iff.mp hq).1
  obtain ⟨b, hb, x, y, u, w, ev, e2, hx, hy, _⟩ := hLs j acc.toList[j] (by simp [hj'])
  rw [hq] at hb
  cases hb
  have := hT q (List.mem_of_getElem? hq)
  rw [e2] at this
  exact .tup this (.cons ((r1.at' hz1 hx).mono gg (Pre.refl _)) (.cons ((r2.at' hz2 hy).mono gg (Pre.refl _)) .nil))
/-- list(zip(a, b)) -/
theorem sE_lzip {p p2 pos2 : Pos} (gx : GX X) (hgl : Gl X "list") (hml : X.mg "list" = none) (hg : Gl X "zip") (hm : X.mg "zip" = none) (hx : PA X [a, b] (tA nm X.K W ga)) (hs : starEach [a, b] X.env = (false, eval a X.env) :: starEach [b] X.env) (hpl : (backTo pos2 (starEach [b] X.env)).any (·.1) = false)
    (hs2 : starEach [Expr.Call (.Name "zip" p2) [a, b] [] pos2] X.env = (false, eval (.Call (.Name "zip" p2) [a, b] [] pos2) X.env) :: starEach [] X.env) :
    PE X (.Call (.Name "list" p) [.Call (.Name "zip" p2) [a, b] [] pos2] [] pos) (tE nm X.K W fun e M => ((ga e M).bind fun ds e M => lift (zipDs ds) e M).bind fun l e M => if l.length ≤ lim then .ok (.lst l) e M else .bad) := by
  refine ⟨fun pins s σ H Q I ⟨fr, ρ, G, e, M, r, h⟩ => ?_⟩
  refine wpAny_Call_Name_kw (ld_blt I hgl hml rfl ?_ (by decide) (by decide))
  refine PyProof.Rows.callWith_type1 ?_ hs2 (by rfl)
  rw [hs2]
  refine Calls.spliced_cons ?_
  refine wpAny_Call_Name_kw (ld_blt I hg hm PyProof.Rows.boot_zip ?_ (by decide) (by decide))
  have h' : pG nm X.K fr W (gdE nm X.K fr σ Q) ρ G ((ga e M).bind fun ds e M => (lift (zipDs ds) e M).bind fun l e M => if l.length ≤ lim then .ok (.lst l) e M else .bad) := by
    cases q : ga e M with
    | bad => simp only [q] at h; exact h
    | err c fv e' M' => simp only [q] at h; exact h
    | ok d e' M' => simp only [q] at h; exact h
  refine PyProof.Rows.callWith_type1 (thn (hx.run pos2 pins s σ H (fun vs H1 => ∃ ρ1 G1 e1 M1 ds, SR nm X.K fr ρ1 G1 e1 M1 σ H1 ∧ Rps X.K ρ1 G1 ds vs ∧ pG nm X.K fr W (gdE nm X.K fr σ Q) ρ1 G1 ((lift (zipDs ds) e1 M1).bind fun l e M => if l.length ≤ lim then .ok (.lst l) e M else .bad)) I
    (tA.bind gdE_mono r h' fun ρ1 G1 e1 M1 ds vs H1 g1 p1 s1 r1 h1 => ⟨ρ1, G1, e1, M1, ds, s1, r1, h1⟩)) fun us s1 ⟨vs, H1, I1, rv, ρ1, G1, e1, M1, ds, s2, rd, h1⟩ => ?_) hs hpl
  cases q : zipDs ds with
  | none => rw [q] at h1; exact h1.elim
  | some l =>
    rw [q] at h1
    obtain ⟨t1, t2, p1, p2, d1, d2, ws1, ws2, rfl, k1, k2, r1, r2, rfl⟩ := zipDs_two rd q
    have h1 : pG nm X.K fr W (gdE nm X.K fr σ Q) ρ1 G1 (if ((d1.zip d2).map fun p => D.tup [p.1, p.2]).length ≤ lim then .ok (.lst ((d1.zip d2).map fun p => D.tup [p.1, p.2])) e1 M1 else .bad) := h1
    split at h1
    · rename_i hlim
      obtain ⟨u1, u2, rfl, ru1, ru2⟩ := vals2 rv
      cases ru1; cases ru2
      obtain ⟨i1, v1, g1, z1⟩ := (k1.sq s2.wf.sub : SqG t1 X.K H1 p1 ws1).src I1
      obtain ⟨i2, v2, g2, z2⟩ := (k2.sq s2.wf.sub : SqG t2 X.K H1 p2 ws2).src I1
      refine call_zm g1 g2 fun h' hz hTI hTO a1 a2 hsz hk => ?_
      refine Calls.spliced_nil ?_
      have hh : X.A.in1.in1.in1.handled = none := I.ok.hd gx.calm
      have n1 : p1 ≠ s1.heap.objs.size := Nat.ne_of_lt g1.lt
      have n2 : p2 ≠ s1.heap.objs.size + 1 := Nat.ne_of_lt (Nat.lt_succ_of_lt g2.lt)
      have le5 : s1.heap.objs.size + 5 = h'.objs.size := hsz.symm
      have s1' : SrcA t1 h' p1 i1.toArray := g1.at' fun o e => hk _ _ e
      have s2' : SrcA t2 h' p2 i2.toArray := g2.at' fun o e => hk _ _ e
      have hvl1 : i1.length = ws1.length := v1.length.symm
      have hvl2 : i2.length = ws2.length := v2.length.symm
      refine call_list_zip (s := { s1 with heap := h' }) (zsep s1.heap.objs.size p1 p2 g1.lt g2.lt) (drw hh _ p1 n1 i1.toArray) (drw hh _ p2 n2 i2.toArray) hz hTO hTI ⟨a1, s1'⟩ ⟨a2, s2'⟩ (fun b hb => ?_) (fun b hb => ?_) (by simp; omega) fun h'' tk acc c hL hasz hacc hkeep => ?_
      · rcases List.mem_cons.mp hb with rfl | hb
        · obtain ⟨o, e, _⟩ := a1.obj; exact Heap.lt_size e
        · obtain rfl : b = p1 := by simpa using hb
          exact s1'.lt
      · rcases List.mem_cons.mp hb with rfl | hb
        · obtain ⟨o, e, _⟩ := a2.obj; exact Heap.lt_size e
        · obtain rfl : b = p2 := by simpa using hb
          exact s2'.lt
      · refine lzip_end I1 s2 k1 k2 r1 r2 v1 v2 (tk := tk) (S := h'.objs.size) (by omega) (fun b o e => ?_) hL (by simpa using hasz) hacc hlim fun H2 G2 nw J rd => ?_
        · have hb := Heap.lt_size e
          exact hkeep b o (Nat.ne_of_lt (Nat.lt_of_lt_of_le hb (Nat.le_add_right _ _))) (Nat.ne_of_lt (Nat.lt_of_lt_of_le hb (Nat.le_add_right _ _))) (Nat.ne_of_lt hb) (Nat.ne_of_lt (Nat.lt_of_lt_of_le hb (Nat.le_add_right _ _))) (hk b o e)
        · exact ⟨V.ref h'.objs.size, H2, J, rfl, h1 _ H2 G2 ρ1 (nw.both s2.wf.sub).1 (Pre.refl _) (s2.new nw) rd⟩
    · exact h1.elim
end
end PM

namespace PM
open PySem PySem.Spec PyProof.Rows L2 LamX

/-- try: call() / except C as e: return e.f / return dn -/
def triedF (cn f : Nat) (dn : Str) : CO → CO
  | .ok _ M => .ok (.str dn) M
  | .err k (some (g, d)) M => if k = cn ∧ g = f then .ok d M else .bad
  | _ => .bad
/-- a def called with a lambda: T, what the def makes of the lambda's end -/
def lamF (T : CO → CO) (fb : Ev → List MO → Out D) (e : Ev) (M : List MO) : Out D := match fb (blkE [] e) M with
  | .ok d _ M' => (T (.ok d M')).out e
  | .err k fv _ M' => (T (.err k fv M')).out e
  | .bad => .bad
/-- what the def with the try wants -/
def TTtr (K : Frg) (CS : Addr) (f dn : Str) : (XK → Hp → VK → Prop) → Hp → VK → Prop := fun tl H Q =>
  tl (fun cls d H' => cls = .ref CS ∧ ∃ (dd : Addr) (fs : List (Str × V)) (v : V), d = some dd ∧ H' dd = some (.xd fs) ∧ fs.lookup f = some v ∧ Q v H') H fun _ H' => Q (.str dn) H'
theorem pe_len {X : Cx} {e : Expr} {t : TE} (h : PE X e t) : PE X e (fun σ H Q => σ.length = X.N.length → t σ H Q) := ⟨fun pins s σ H Q I q => h.run pins s σ H Q I (q I.len)⟩
theorem tried_gives {X : Cx} {Ng : List Str} {x a e q f dn cx : Str} {sg : Scope} {g CS : Addr} {cdg : Value} {j : Nat} {p1 p2 p3 p4 p5 p6 p7 p8 p9 p10 p11 p12 : Pos} (hN : Ng = [a, e]) (hne : a ≠ e) (hle : sg.names.lookup e = some .local) (hgc : sg.names.lookup cx = some .globalImplicit) (hmc : X.mg cx = some (.ref CS))
    (hdc : (cx == ("__debug__" : Str)) = false) (he1 : (e == ("__debug__" : Str)) = false) (he2 : (e == ("__classdict__" : Str)) = false) (T : XfC X.K CS) (hno : PySem.W.findIn X.K (.ref CS) f = some none) (hone : PySem.W.exmOne X.K (.ref CS) (.ref CS) = some true)
    (hb : ∀ env, attributeBase (.Name e p5) f env (eval (.Name e p5) env) = eval (.Name e p5) env) (hsw : ∀ env, swapsWith (.Call (.Name a p1) [] [] p2) none p3.line env = pure false) :
    GivesTo X Ng x sg g cdg [.Try [.Expr (.Call (.Name a p1) [] [] p2) p3] [.ExceptHandler (some (.Name cx p4)) (some e) [.Return (some (.Attribute (.Name e p5) f p6)) p7] p8] [] [] p9, .Return (some (.Constant (.str dn) j p10)) p11] a q (TTtr X.K CS f dn) := by
  intro fl c' s H Q tl act hc h
  subst hN
  have hgl : Gl (cxOf C8.CX0 X.prog X.w X.K X.mg X.base [a, e] x sg g cdg X.A X.stack s H C8.E0).nox cx := hgc
  have hvis : Vis sg e := .inl hle
  refine ⟨_, pss_cons (ps_try_as (X := (cxOf C8.CX0 X.prog X.w X.K X.mg X.base [a, e] x sg g cdg X.A X.stack s H C8.E0).nox) (i := 1) (n := e) (c := .ref CS)
      (tb := fun W D σ H => ∃ Ech : XK, (∀ cls d σ' H', Ech cls d H' → W cls d σ' H') ∧ σ[0]? = some (some (.ref fl)) ∧ H c' = some (CodeO c' q) ∧ tl Ech H fun v H' => D.nx σ H')
      (ts := fun a cls d => tRet (tXf a cls d CS f fun σ H Q => σ.length = 2 → tVar 1 σ H Q))
      rfl rfl (show [a, e].Nodup by simpa using hne) rfl hle ⟨hgl, hdc, .inl hmc⟩ LamX.takes0 (fun W pn xe tk _ => ?_) (fun a' oe cls d pn hz hf => ?_)) (pss_one (ps_ret pe_str)), ?_⟩
  · refine ⟨fun pins s' σ H' D I h' => ?_⟩
    obtain ⟨Ech, hW, h1, h2, h3⟩ := h'
    have hp := act W pn xe Ech p1 p2 tk hW
    have hq := pss_one (ps_expr (pos := p3) hp (hsw _))
    exact hq.run pins s' σ H' D I ⟨h1, h2, h3⟩
  · exact pss_one (ps_ret (pe_xf T hno hz hf (pe_len (pe_var (i := 1) rfl hvis he1 he2)) (hb _)))
  · refine ⟨_, fun cls d σ' H' hE => ?_, rfl, hc, h⟩
    obtain ⟨ec, dd, fs, v, h1, h2, h3, h4⟩ := hE
    subst ec
    refine ⟨true, hone, fun _ a' ha' hl => ⟨.ref a', ?_, rfl, rfl, dd, fs, v, h1, h2, h3, h4⟩, fun z => by cases z⟩
    rw [List.getElem?_set_self]
    rw [List.length_set] at hl
    omega
section
variable {X : Cx} {nm : Nm} {W : WX} {fb : Ev → List MO → Out D}
theorem Wf.ext {K : Frg} {ρ : List Addr} {G H H1 : Hp} {M : List MO} (w : Wf nm K ρ G M H) (x : ExtN H H1) (t : Tabs nm.T H1) : Wf nm K ρ G M H1 where
  sub := fun b u q => x b u (w.sub b u q) fun ps z => by
    subst z
    exact w.gt b ps q
  len := w.len
  nd := w.nd
  off := fun a m => by
    obtain ⟨h1, o, h2, h3⟩ := w.off a m
    exact ⟨h1, o, x a o h2 h3, h3⟩
  obj := fun i m a hm ha => by
    obtain ⟨h1, o, h2, h3⟩ := w.off a (List.mem_of_getElem? ha)
    exact (w.obj i m a hm ha).mono (Same.refl _) (Pre.refl _) ((x a o h2 h3).trans h2.symm)
  gt := w.gt
  tabs := t
  tfr := w.tfr
/-- x(lambda: body): the body's context -/
theorem lamTakes {A : Around} {outer : List Env} {s : Shared} {H : Hp} {E : XK} {scope : Scope} {f c' : Addr} : Takes (lamCx X A outer s H E scope f c') (fun cls d _ H' => E cls d H') := takes_of rfl rfl rfl rfl
theorem sE_lam {x a : Str} {cn fn : Nat} {dn : Str} {g c P : Addr} {k : Nat} {pg : Arguments} {sg : Scope} {dV kV doc pm cdv ct oc : Value} {an od : Option Addr} {osl : Array (Option Value)} {bg : List Stmt} {Ng : List Str}
    {params : Arguments} {body : Expr} {scope : Scope} {p lpos pos : Pos} (hg : Gl X x) (hm : X.mg x = some (.ref g)) (hk : PySem.W.keepIn X.K (.ref g) = true)
    (lk : X.K.lookup g = some ⟨oc, od, .func (PySem.W.fnOf x x pg bg sg dV kV doc pm an cdv ct), osl⟩) (hcg : PySem.W.codeIn X.K cdv x = true) (hb : L2.Binds X.K (PySem.W.fnOf x x pg bg sg dV kV doc pm an cdv ct) [a] []) (Sg : FnScope Ng [a] sg) (hNg : Ng[0]? = some a) (hva : Vis sg a)
    (hG : GivesTo X Ng x sg g cdv bg a (X.env.qual ++ "<lambda>") (TTtr X.K (nm.exc cn) (nm.fld fn) dn))
    (TB : TabB X.base X.mg c P) (hcode : X.env.code = .ref c) (hmT : (P, X.env.qual ++ "<lambda>") ∈ nm.T) (hu : ∀ p ∈ nm.T, p.1 = P → p.2 = X.env.qual ++ "<lambda>") (hr : Room (k + 2) X.A) (L : LamS X.env.scope scope) (hdef : defaultsOf params X.env = ([], []))
    (hbind : ∀ (q : Str) (cl : List (Str × Addr)) (pm cv ctv : Value), bindArgs (PySem.W.kla_fn "<lambda>" q params body scope cl pm cv ctv) ⟨[], []⟩ = pure [])
    (hfld : ∀ h, nm.fld h = nm.fld fn → h = fn)
    (hbody : ∀ (A : Around) (outer : List Env) (s : Shared) (H : Hp) (E : XK) (f c' : Addr), Room k (A.deeper (lamEnv X scope s.heap.objs.size f c')) → PE (lamCx X A outer s H E scope f c') body (tE nm X.K (fun cls d _ H' => E cls d H') fb))
    (hdb : (x == ("__debug__" : Str)) = false) (hd : (a == ("__debug__" : Str)) = false) (hcd : (a == ("__classdict__" : Str)) = false) :
    PE X (.Call (.Name x p) [.Lambda params body scope lpos] [] pos) (tE nm X.K W (lamF (triedF cn fn dn) fb)) := by
  refine (pe_lamcall (T := nm.T) (t := fun E => tE nm X.K (fun cls d _ H' => E cls d H') fb) hg hm hk lk hcg hb Sg hNg hva hG TB hcode hmT hu hr L hdef hbind hbody hdb hd hcd).imp fun σ H Q ⟨fr, ρ, G, e, M, s, h⟩ => ?_
  refine ⟨s.wf.tabs, fun H1 x1 t1 => ?_⟩
  have w1 := s.wf.ext x1 t1
  have kp1 : Kp ρ G H ρ G H1 := ⟨fun _ _ h => h, fun b o e n _ => x1 b o e n, fun _ _ => rfl, Same.refl _, fun _ m => .inl m, fun b ⟨o, e, n⟩ => ⟨o, x1 b o e n, n⟩⟩
  have s1 := s.step kp1 w1
  have sb : SR nm X.K ⟨H1, G, ρ⟩ ρ G (blkE [] e) M (wipe σ []) H1 := s1.block []
  have sb : SR nm X.K ⟨H1, G, ρ⟩ ρ G (blkE [] e) M σ H1 := sb
  show ∃ fr ρ G e M, _
  refine ⟨_, ρ, G, blkE [] e, M, sb, ?_⟩
  unfold lamF at h
  cases q : fb (blkE [] e) M with
  | bad => rw [q] at h; exact h
  | ok d e' M' =>
    rw [q] at h
    intro v H' G' ρ' g' p' s' rv
    exact h (.str dn) H' G' ρ' g' p' (s1.step s'.kp s'.wf) (.str dn)
  | err k' fv e' M' =>
    rw [q] at h
    intro σ' H' G' ρ' dx g' p' s' er
    cases fv with
    | none => exact h.elim
    | some fv =>
      obtain ⟨f', d'⟩ := fv
      simp only [triedF] at h
      split at h
      · rename_i hc
        obtain ⟨rfl, rfl⟩ := hc
        obtain ⟨dd, v, h1, h2, h3⟩ := er
        refine ⟨rfl, dd, _, v, h1, h2, ?_, h v H' G' ρ' g' p' (s1.step s'.kp s'.wf) h3⟩
        simp [List.lookup]
      · exact h.elim
end
end PM

namespace PM
open PySem PySem.Spec PyProof.Rows L2

/-! ### the text's parts as functions -/
abbrev EF := Ev → List MO → Out D
abbrev AF := Ev → List MO → Out (List D)
abbrev TF := Ev → List MO → Out Bool
abbrev SF := Ev → List MO → Out Fl
abbrev OF := Ev → List MO → Out (Option Int)
abbrev GF := D → Ev → List MO → Out Unit
abbrev CF := List D → List MO → CO
def eC (d : D) : EF := fun e M => .ok d e M
def eV (i : Nat) : EF := rdV i
def eB (o : Bop) (a b : EF) : EF := fun e M => (a e M).bind fun x e M => (b e M).bind fun y e M => lift (bopD o x y) e M
def eNeg (a : EF) : EF := fun e M => (a e M).bind fun x e M => match x with | .int i => .ok (.int (-i)) e M | _ => .bad
def eNot (a : EF) : EF := fun e M => (a e M).bind fun x e M => lift ((truthD x).map fun b => .bl (!b)) e M
def eQ (o : Cop) (a b : EF) : EF := fun e M => (a e M).bind fun x e M => (b e M).bind fun y e M => lift ((cmpD o x y).map .bl) e M
def eCh (o p : Cop) (a b c : EF) : EF := fun e M => (a e M).bind fun x e M => (b e M).bind fun y e M => (lift (cmpD o x y) e M).bind fun k e M => match k with
  | true => (c e M).bind fun z e M => lift ((cmpD p y z).map .bl) e M
  | false => .ok (.bl false) e M
def eAn (a b : EF) : EF := fun e M => (a e M).bind fun x e M => match x with | .bl true => b e M | .bl false => .ok (.bl false) e M | _ => .bad
def eO (a b : EF) : EF := fun e M => (a e M).bind fun x e M => match x with | .bl true => .ok (.bl true) e M | .bl false => b e M | _ => .bad
def eI (t : TF) (a b : EF) : EF := fun e M => (t e M).bind fun k e M => match k with | true => a e M | false => b e M
def eT (g : AF) : EF := fun e M => (g e M).bind fun ds e M => if ds.length ≤ lim then .ok (.tup ds) e M else .bad
def eL (g : AF) : EF := fun e M => (g e M).bind fun ds e M => if ds.length ≤ lim then .ok (.lst ds) e M else .bad
def eMl (g : AF) : EF := fun e M => (g e M).bind fun ds e M => if ds.length ≤ lim then .ok (.ref M.length) e (M ++ [.lst ds]) else .bad
def eX (a b : EF) : EF := fun e M => (a e M).bind fun x e M => (b e M).bind fun y e M => lift (subD' x y M) e M
def eS (a : EF) (l h : OF) : EF := fun e M => (a e M).bind fun x e M => (l e M).bind fun l e M => (h e M).bind fun h e M => lift (sliceD x l h) e M
def eF (a : EF) (f : Nat) : EF := fun e M => (a e M).bind fun x e M => lift (fldD x f M) e M
def eBi (g : List D → Option D) (as : AF) : EF := fun e M => (as e M).bind fun ds e M => lift (g ds) e M
def eMt (f : Mt) (g : D → List D → Option D) (a : EF) (as : AF) : EF := fun e M => (a e M).bind fun x e M => if rcvB f x then (as e M).bind fun ds e M => lift (g x ds) e M else .bad
def eIs (a : EF) (t : Ty) : EF := fun e M => (a e M).bind fun x e M => lift ((isiD x t M).map .bl) e M
def eCa (g : CF) (as : AF) : EF := fun e M => (as e M).bind fun ds e M => (g ds M).out e
def eCa0 (g : CF) : EF := fun e M => (g [] M).out e
def eMk (g : CF) (c : Nat) (as : AF) : EF := fun e M => (as e M).bind fun ds e M => mkF g c ds e M
def eMc (cn : Nat) (g : CF) (o : EF) (as : AF) : EF := fun e M => (o e M).bind fun x e M => if rcvD cn x M then (as e M).bind fun ds e M => (g (x :: ds) M).out e else .bad
def eMc0 (cn : Nat) (g : CF) (o : EF) : EF := fun e M => (o e M).bind fun x e M => if rcvD cn x M then (g [x] M).out e else .bad
def eCo (vs : List Nat) (t : Tg) (it : AF) (c : TF) (f : EF) : EF := fun e M => (it e M).bind fun xs e M => if xs.length ≤ lim then (cmpL (compF vs t c f e) xs [] M).bind fun l _ M => .ok (.lst l) e M else .bad
def eCo2 (vs : List Nat) (t : Tg) (it : AF) (vs1 : List Nat) (t1 : Tg) (it1 : AF) (c : TF) (f : EF) : EF := fun e M => (it e M).bind fun xs e M => (cmpL2 (comp2F vs t it1 vs1 t1 c f e) xs [] M).bind fun l _ M => .ok (.lst l) e M
def eZ (as : AF) : EF := fun e M => ((as e M).bind fun ds e M => lift (zipDs ds) e M).bind fun l e M => if l.length ≤ lim then .ok (.lst l) e M else .bad
def eIK (tb : Str → Option Int) (a : EF) : EF := fun e M => (a e M).bind fun d e M => match d with | .str z => .ok (.bl (tb z).isSome) e M | _ => .bad
def eGK (tb : Str → Option Int) (a : EF) : EF := fun e M => (a e M).bind fun d e M => match d with | .str z => lift ((tb z).map .int) e M | _ => .bad
def eGI (kvs : List (Int × Int)) (a : EF) : EF := fun e M => (a e M).bind fun d e M => match d with | .int z => lift ((kvs.lookup z).map .int) e M | _ => .bad
def eLa (cn f : Nat) (dn : Str) (b : EF) : EF := lamF (triedF cn f dn) b
def tE1 (a : EF) : TF := fun e M => (a e M).bind fun x e M => lift (truthD x) e M
def tQ (o : Cop) (a b : EF) : TF := fun e M => (a e M).bind fun x e M => (b e M).bind fun y e M => lift (cmpD o x y) e M
def tN (t : TF) : TF := fun e M => (t e M).bind fun b e M => .ok (!b) e M
def tAn (t u : TF) : TF := fun e M => (t e M).bind fun k e M => match k with | true => u e M | false => .ok false e M
def tOr (t u : TF) : TF := fun e M => (t e M).bind fun k e M => match k with | true => .ok true e M | false => u e M
def cY : TF := fun e M => .ok true e M
def aN : AF := fun e M => .ok [] e M
def aC (a : EF) (r : AF) : AF := fun e M => (a e M).bind fun d e M => (r e M).bind fun ds e M => .ok (d :: ds) e M
def aS (a : EF) (r : AF) : AF := fun e M => (a e M).bind fun d e M => (lift (seqD d) e M).bind fun xs e M => (r e M).bind fun ds e M => .ok (xs ++ ds) e M
def oN : OF := fun e M => .ok none e M
def oS (a : EF) : OF := fun e M => (a e M).bind fun d e M => match d with | .int i => .ok (some i) e M | _ => .bad
def iS (a : EF) : AF := fun e M => (a e M).bind fun d e M => lift (seqD d) e M
def iR1 (as : AF) : AF := fun e M => (as e M).bind fun ds e M => lift (rngDs1 ds) e M
def iR2 (as : AF) : AF := fun e M => (as e M).bind fun ds e M => lift (rngDs2 ds) e M
def iZ (as : AF) : AF := fun e M => (as e M).bind fun ds e M => lift (zipDs ds) e M
def iE (as : AF) : AF := fun e M => (as e M).bind fun ds e M => lift (enmDs ds) e M
def sN : SF := nxt
def sC (s r : SF) : SF := seqF s r
def sE' (a : EF) : SF := fun e M => (a e M).bind fun d e M => .ok .nx e M
def sA (i : Nat) (a : EF) : SF := fun e M => (a e M).bind fun d e M => .ok .nx (e.set i (.val d)) M
def sOw (i : Nat) (as : AF) : SF := fun e M => (as e M).bind fun ds e M => if ds.length ≤ lim then .ok .nx (e.set i (.own ds)) M else .bad
def sR (a : EF) : SF := fun e M => (a e M).bind fun d e M => .ok (.rt d) e M
def sRN : SF := fun e M => .ok (.rt .non) e M
def sI (t : TF) (a b : SF) : SF := fun e M => (t e M).bind fun k e M => match k with | true => a e M | false => b e M
def sFo (t : Tg) (it : AF) (b : SF) : SF := fun e M => (it e M).bind fun ds e M => forL (turn t b) ds e M
def sG (g : GF) (a : EF) : SF := fun e M => (a e M).bind fun d e M => nxS (g d e M)
def sFs (o : EF) (f : Nat) (a : EF) : SF := fun e M => (a e M).bind fun d e M => (o e M).bind fun x e M => match insOf x M with
  | some (i, c, fs) => if fs.length ≤ 100 then .ok .nx e (M.set i (.ins c (putD f d fs))) else .bad
  | none => .bad
def sAp (i : Nat) (a : EF) : SF := fun e M => if isOwnAt i e then (a e M).bind fun d e M => appF i d e M else .bad
def sEx (i : Nat) (a : EF) : SF := fun e M => if isOwnAt i e then (a e M).bind fun d e M => extF i d e M else .bad
def sMa (o a : EF) : SF := fun e M => (o e M).bind fun x e M => if isML x M then (a e M).bind fun d e M => mappF x d e M else .bad
def sRa (cn f : Nat) (a : EF) : SF := fun e M => (a e M).bind fun d e M => .err cn (some (f, d)) e M
def gN (i : Nat) : GF := fun d e M => .ok () (e.set i (.val d)) M
def gS (a b : EF) : GF := fun d e M => (a e M).bind fun x e M => (b e M).bind fun y e M => putI x y d e M
def gL : List GF → List D → Ev → List MO → Out Unit
  | [], ds, e, M => match ds with | [] => .ok () e M | _ :: _ => .bad
  | g :: r, ds, e, M => match ds with | [] => .bad | d :: ds => (g d e M).bind fun _ e M => gL r ds e M
def gT (l : List GF) : GF := unT l.length (gL l)
/-- a def's evaluation: n parameters, m more names -/
def defC (n m : Nat) (b : SF) : CF := fun ds M => if ds.length = n then (match b (ds.map .val ++ List.replicate m .non) M with
  | .ok .nx _ M' => .ok .non M'
  | .ok (.rt d) _ M' => .ok d M'
  | .err k fv _ M' => .err k fv M'
  | _ => .bad) else .bad
theorem defC_len {n m : Nat} {b : SF} : ∀ ds M, ds.length ≠ n → defC n m b ds M = .bad := fun ds M h => if_neg h

/-! ### contexts -/
structure Cc (gd : Bool) (X : Cx) (W : WX) (k : Nat) : Prop where
  gx : GX X
  hr : Room k X.A
  tk : Takes X W
  hg : gd = true → X.A.guards = some []
theorem takesF {X : Cx} : Takes X WF0 := fun _ _ x => by
  obtain ⟨_, _, _, _, _, _, _, _, _, _, _, _, _, _, _, _, z⟩ := x
  exact z.elim
theorem Cc.blk {gd : Bool} {X : Cx} {W : WX} {k : Nat} (c : Cc gd X W k) (s : Shared) (H : Hp) (scope : Scope) (env : Env) (fp : List Addr) : Cc gd (X.blk s H scope env fp) WF0 k := ⟨⟨c.gx.nd, c.gx.calm, c.gx.hu⟩, c.hr, takesF, c.hg⟩
theorem Cc.lam {gd : Bool} {X : Cx} {W : WX} {k : Nat} (c : Cc gd X W k) (A : Around) (outer : List Env) (s : Shared) (H : Hp) (E : XK) (scope : Scope) (f c' : Addr) {j : Nat} (hr : Room j (A.deeper (LamX.lamEnv X scope s.heap.objs.size f c'))) : Cc false (LamX.lamCx X A outer s H E scope f c') (fun cls d _ H' => E cls d H') j :=
  ⟨⟨c.gx.nd, rfl, by have := hr.un; show (A.deeper _).units + 65 < cLine; omega⟩, hr, lamTakes, fun z => by cases z⟩
/-- a def of the module -/
structure Df (gd : Bool) (P : Program) (w : World) (K : Frg) (mg : Str → Option Value) (base : Heap) (nm : Nm) (x : Str) (k n : Nat) (g : CF) : Prop where
  ex : ∃ f fd ps, FnG gd P w K mg base k f fd ps (spD nm K n g) ∧ Binds K fd ps [] ∧ mg x = some (.ref f) ∧ PySem.W.keepIn K (.ref f) = true
  gn : ∀ ds M, ds.length ≠ n → g ds M = .bad
/-- a method of an instance's class; "__init__" makes -/
structure Dm (gd : Bool) (P : Program) (w : World) (K : Frg) (mg : Str → Option Value) (base : Heap) (nm : Nm) (cn : Nat) (m : Str) (k n : Nat) (g : CF) : Prop where
  ex : ∃ f fd ps, FnG gd P w K mg base k f fd ps (spD nm K n g) ∧ Binds K fd ps [] ∧ Meth K (nm.cls cn) m f
  gn : ∀ ds M, ds.length ≠ n → g ds M = .bad
theorem fng_of {P : Program} {w : World} {K : Frg} {mg : Str → Option Value} {base : Heap} {k : Nat} {f : Addr} {fd : FuncData} {ps : List Str} {sp : Sp} (F : FnOk P w K mg base (L2.CX P w) k f fd ps sp) : FnG false P w K mg base k f fd ps sp :=
  ⟨F.len, fun A outer s H args us vs Q E hr _ e0 hb r h => F.run A outer s H args us vs Q E hr e0 hb r h⟩
theorem sr_start {nm : Nm} {K : Frg} {ρ : List Addr} {G H : Hp} {M : List MO} {ds : List D} {vs : List V} {N : List Str} {m : Nat} (w : Wf nm K ρ G M H) (r : Rps K ρ G ds vs) (hl : N.length = vs.length + m) :
    SR nm K ⟨H, G, ρ⟩ ρ G (ds.map .val ++ List.replicate m .non) M (L2.start N vs) H where
  wf := w
  kp := Kp.refl
  vals := fun i d h => by
    by_cases hi : i < ds.length
    · rw [List.getElem?_append_left (by simpa using hi), List.getElem?_map] at h
      obtain ⟨x, hx, e⟩ := Option.map_eq_some_iff.mp h
      cases e
      obtain ⟨v, hv, rv⟩ := r.get hx
      refine ⟨v, ?_, rv⟩
      have hi' : i < vs.length := by rw [← r.length]; exact hi
      unfold L2.start
      rw [List.getElem?_append_left (by simpa using hi'), List.getElem?_map, hv]; rfl
    · rw [List.getElem?_append_right (by simpa using hi)] at h
      rw [List.getElem?_replicate] at h
      split at h <;> cases h
  owns := fun i xs h => by
    exfalso
    by_cases hi : i < ds.length
    · rw [List.getElem?_append_left (by simpa using hi), List.getElem?_map] at h
      obtain ⟨x, hx, e⟩ := Option.map_eq_some_iff.mp h
      cases e
    · rw [List.getElem?_append_right (by simpa using hi)] at h
      rw [List.getElem?_replicate] at h
      split at h <;> cases h
  apart := fun i j xs ys a h => by
    exfalso
    by_cases hi : i < ds.length
    · rw [List.getElem?_append_left (by simpa using hi), List.getElem?_map] at h
      obtain ⟨x, hx, e⟩ := Option.map_eq_some_iff.mp h
      cases e
    · rw [List.getElem?_append_right (by simpa using hi)] at h
      rw [List.getElem?_replicate] at h
      split at h <;> cases h
  len := by
    have := r.length
    unfold L2.start
    simp
    omega
theorem FnG.up {gd : Bool} {P : Program} {w : World} {K : Frg} {mg : Str → Option Value} {base : Heap} {k : Nat} {f : Addr} {fd : FuncData} {ps : List Str} {sp : Sp} (F : FnG false P w K mg base k f fd ps sp) : FnG gd P w K mg base k f fd ps sp :=
  ⟨F.len, fun A outer s H args us vs Q E hr _ e0 hb r h => F.run A outer s H args us vs Q E hr (fun z => by cases z) e0 hb r h⟩
theorem Df.up {gd : Bool} {P : Program} {w : World} {K : Frg} {mg : Str → Option Value} {base : Heap} {nm : Nm} {x : Str} {k n : Nat} {g : CF} (d : Df false P w K mg base nm x k n g) : Df gd P w K mg base nm x k n g :=
  ⟨let ⟨f, fd, ps, F, r⟩ := d.ex; ⟨f, fd, ps, F.up, r⟩, d.gn⟩
theorem Dm.up {gd : Bool} {P : Program} {w : World} {K : Frg} {mg : Str → Option Value} {base : Heap} {nm : Nm} {cn : Nat} {x : Str} {k n : Nat} {g : CF} (d : Dm false P w K mg base nm cn x k n g) : Dm gd P w K mg base nm cn x k n g :=
  ⟨let ⟨f, fd, ps, F, r⟩ := d.ex; ⟨f, fd, ps, F.up, r⟩, d.gn⟩
/-- a def keeps the promise that its text tells -/
theorem def_of {gd : Bool} {P : Program} {w : World} {K : Frg} {mg : Str → Option Value} {base : Heap} {nm : Nm} {x qual : Str} {params : Arguments} {body : List Stmt} {scope : Scope} {f : Addr} {fd : FuncData} {N ps : List Str} {k m : Nat} {b : SF} (F : FunD K x qual params body scope [] [] f fd) (S : FnScope N ps scope)
    (hN : N.length = ps.length + m) (hnd : N.Nodup)
    (h : ∀ (cdv : Value) (A : Around) (outer : List Env) (s : Shared) (H : Hp) (E : XK), Cc gd (cxOf (L2.CX P w) P w K mg base N qual scope f cdv A outer s H E) (fun cls d _ H' => E cls d H') k → PSs (cxOf (L2.CX P w) P w K mg base N qual scope f cdv A outer s H E) body (tS nm K (fun cls d _ H' => E cls d H') b)) :
    FnG gd P w K mg base (k + 1) f fd ps (spD nm K ps.length (defC ps.length m b)) := by
  obtain ⟨oc, od, dV, kV, doc, pm, an, cdv, ct, osl, rfl, lk, hcd, _, _⟩ := F.ex
  refine fnG_of lk hcd S (fun vs H Q E h => h.1) fun A outer s H vs Q E hgd hr ⟨hl, ρ, G, M, ds, wf, rd, hp⟩ => ⟨_, h cdv A outer s H E ⟨⟨hnd, rfl, by have := hr.un; show (A.deeper _).units + 65 < cLine; omega⟩, hr, takes_of rfl rfl rfl rfl, hgd⟩, ?_⟩
  refine ⟨⟨H, G, ρ⟩, ρ, G, _, M, sr_start wf rd (m := m) (by rw [hN, hl]), ?_⟩
  have hd : ds.length = ps.length := by rw [rd.length]; exact hl
  unfold defC at hp
  rw [if_pos hd] at hp
  cases q : b (ds.map .val ++ List.replicate m .non) M with
  | bad => rw [q] at hp; exact hp
  | err c fv e' M' =>
    rw [q] at hp
    exact fun σ' H' G' ρ' dx g p s' er => hp H' G' ρ' dx s'.kp s'.wf er
  | ok fl e' M' =>
    rw [q] at hp
    cases fl with
    | nx => exact fun σ' H' G' ρ' g p s' => hp .non H' G' ρ' s'.kp s'.wf .non
    | rt d => exact fun v σ' H' G' ρ' g p s' rv => hp v H' G' ρ' s'.kp s'.wf rv
    | bk => exact hp.elim
    | ct => exact hp.elim
end PM

namespace PM
open PySem PySem.Spec PyProof.Rows L2

section
variable {gd : Bool} {X : Cx} {nm : Nm} {W : WX} {k : Nat} {pos : Pos} {a b c : Expr} {es : List Expr} {fa fb fc : EF} {ga gb : AF} {ft fu : TF}
theorem wVar {i : Nat} {x : Str} (hN : X.N[i]? = some x := by rfl) (hv : Vis X.env.scope x := by first | exact .inl rfl | exact .inr (.inl rfl) | exact .inr (.inr rfl)) (hd : (x == ("__debug__" : Str)) = false := by decide) (hc : (x == ("__classdict__" : Str)) = false := by decide) : PE X (.Name x pos) (tE nm X.K W (eV i)) := sE_var hN hv hd hc
theorem wNon {j} : PE X (.Constant .none j pos) (tE nm X.K W (eC .non)) := sE_non
theorem wBl {v j} : PE X (.Constant (.bool v) j pos) (tE nm X.K W (eC (.bl v))) := sE_bl
theorem wInt {i j} : PE X (.Constant (.int i) j pos) (tE nm X.K W (eC (.int i))) := sE_int
theorem wStr {x j} : PE X (.Constant (.str x) j pos) (tE nm X.K W (eC (.str x))) := sE_str
/-- a constant of the module -/
theorem wGlo {x : Str} {u : Value} {v : V} {d : D} (hm : X.mg x = some u) (ru : RelV v u) (rv : ∀ ρ G, Rp X.K ρ G d v) (hg : Gl X x := by rfl) (hd : (x == ("__debug__" : Str)) = false := by decide) : PE X (.Name x pos) (tE nm X.K W (eC d)) :=
  sE_glob (d := some d) hg hm ru hd fun d' h ρ G => by cases h; exact rv ρ G
theorem wB {o : Bop} (ha : PE X a (tE nm X.K W fa)) (hb : PE X b (tE nm X.K W fb)) : PE X (.BinOp a (opA o) b pos) (tE nm X.K W (eB o fa fb)) := sE_bop ha hb
theorem wNeg (ha : PE X a (tE nm X.K W fa)) : PE X (.UnaryOp .USub a pos) (tE nm X.K W (eNeg fa)) := sE_neg ha
theorem wNot (ha : PE X a (tE nm X.K W fa)) : PE X (.UnaryOp .Not a pos) (tE nm X.K W (eNot fa)) := sE_not ha
theorem wQ (cc : Cc gd X W k) {o : Cop} (ha : PE X a (tE nm X.K W fa)) (hb : PE X b (tE nm X.K W fb)) (hm : behindInMarks (cpA o) b = false := by rfl) : PE X (.Compare a [cpA o] [b] pos) (tE nm X.K W (eQ o fa fb)) := sE_cmp cc.gx ha hb hm
theorem wCh (cc : Cc gd X W k) {o p : Cop} (ha : PE X a (tE nm X.K W fa)) (hb : PE X b (tE nm X.K W fb)) (hc : PE X c (tE nm X.K W fc)) (hm : lastMarks [cpA o, cpA p] [b, c] = false := by rfl) : PE X (.Compare a [cpA o, cpA p] [b, c] pos) (tE nm X.K W (eCh o p fa fb fc)) := sE_chn cc.gx hm ha hb hc
theorem wAn {rest : List Expr} (ha : PE X a (tE nm X.K W fa)) (hb : PE X (.BoolOp .And (b :: rest) pos) (tE nm X.K W fb)) : PE X (.BoolOp .And (a :: b :: rest) pos) (tE nm X.K W (eAn fa fb)) := sE_and ha hb
theorem wO {rest : List Expr} (ha : PE X a (tE nm X.K W fa)) (hb : PE X (.BoolOp .Or (b :: rest) pos) (tE nm X.K W fb)) : PE X (.BoolOp .Or (a :: b :: rest) pos) (tE nm X.K W (eO fa fb)) := sE_or ha hb
theorem wI (hc : PT X c (tT nm X.K W ft)) (ha : PE X a (tE nm X.K W fa)) (hb : PE X b (tE nm X.K W fb)) : PE X (.IfExp c a b pos) (tE nm X.K W (eI ft fa fb)) := sE_ife hc ha hb
theorem wT {j : Nat} (h : PA X es (tA nm X.K W ga)) : PE X (.Tuple es j pos) (tE nm X.K W (eT ga)) := sE_tup h
theorem wL (h : PA X es (tA nm X.K W ga)) : PE X (.List es pos) (tE nm X.K W (eL ga)) := sE_lst h
theorem wMl (h : PA X es (tA nm X.K W ga)) : PE X (.List es pos) (tE nm X.K W (eMl ga)) := sE_mls h
theorem wX (cc : Cc gd X W k) (ha : PE X a (tE nm X.K W fa)) (hb : PE X b (tE nm X.K W fb)) (hp : PlainIx b := by intro _ _; rfl) : PE X (.Subscript a b pos) (tE nm X.K W (eX fa fb)) := sE_idx cc.gx ha hb hp
theorem wS {lo hi : Option Expr} {p2 : Pos} {fl fh : OF} (ha : PE X a (tE nm X.K W fa)) (hl : PO X lo (tOp' nm X.K W fl)) (hh : PO X hi (tOp' nm X.K W fh)) : PE X (.Subscript a (.Slice lo hi none p2) pos) (tE nm X.K W (eS fa fl fh)) := sE_slc ha hl hh
theorem wON : PO X none (tOp' nm X.K W oN) := sO_no
theorem wOS (ha : PE X a (tE nm X.K W fa)) : PO X (some a) (tOp' nm X.K W (oS fa)) := sO_so ha
/-- the fields' names are told apart, and no class has one -/
structure FlOk (nm : Nm) (K : Frg) (f : Nat) : Prop where
  inj : ∀ g, nm.fld g = nm.fld f → g = f
  hc : ∀ k, Cls K (nm.cls k) ∧ NoAttr K (nm.cls k) (nm.fld f)
theorem wF {f : Nat} {y : Str} (ok : FlOk nm X.K f) (ha : PE X a (tE nm X.K W fa)) (hy : nm.fld f = y := by rfl) (hb : attributeBase a y X.env (eval a X.env) = eval a X.env := by rfl) : PE X (.Attribute a y pos) (tE nm X.K W (eF fa f)) := by
  subst hy
  exact sE_fld ha hb ok.inj ok.hc
theorem wBi {id : String} {x : Str} {p : Pos} {g : List D → Option D} (hc : CallR X (.builtin id) (rBi X.K g)) (hm : X.mg x = none) (hv : bootBuiltins x = some (.builtin id)) (hx : PA X (a :: es) (tA nm X.K W ga)) (hg : Gl X x := by rfl) (hn : x ≠ "__name__" := by decide) (hdb : (x == ("__debug__" : Str)) = false := by decide)
    (he : starEach (a :: es) X.env = (false, eval a X.env) :: starEach es X.env := by rfl) (hpl : (backTo pos (starEach es X.env)).any (·.1) = false := by rfl) : PE X (.Call (.Name x p) (a :: es) [] pos) (tE nm X.K W (eBi g ga)) := sE_bi hc hg hm hv hx hn hdb he hpl
theorem wBt {id : String} {x : Str} {p : Pos} {g : List D → Option D} (hc : CallR X (.type id) (rBi X.K g)) (hm : X.mg x = none) (hv : bootBuiltins x = some (.type id)) (hx : PA X (a :: es) (tA nm X.K W ga)) (hg : Gl X x := by rfl) (hn : x ≠ "__name__" := by decide) (hdb : (x == ("__debug__" : Str)) = false := by decide)
    (he : starEach (a :: es) X.env = (false, eval a X.env) :: starEach es X.env := by rfl) (hpl : (backTo pos (starEach es X.env)).any (·.1) = false := by rfl) : PE X (.Call (.Name x p) (a :: es) [] pos) (tE nm X.K W (eBi g ga)) := sE_bt hc hg hm hv hx hn hdb he hpl
theorem wIndex (cc : Cc gd X W k) {o e : Expr} {fo : EF} {apos : Pos} (ho : PE X o (tE nm X.K W fo)) (ha : PA X (e :: es) (tA nm X.K W ga)) (hbase : attributeBase o "index" X.env (eval o X.env) = eval o X.env := by rfl)
    (hfew : ((backTo pos (starEach (e :: es) X.env)).all (fun x => !x.1) && (backToKw pos (keywordEach [] X.env)).all (fun x => x.1.isSome) && decide ((e :: es).length + ([] : List Keyword).length + (if ([] : List Keyword).isEmpty then 0 else 1) < 30)) = true := by rfl)
    (hline : (apos.endLine == pos.line) = true := by rfl) (hs : starEach (e :: es) X.env = (false, eval e X.env) :: starEach es X.env := by rfl) (hplain : (backTo pos (starEach es X.env)).any (·.1) = false := by rfl) :
    PE X (.Call (.Attribute o "index" apos) (e :: es) [] pos) (tE nm X.K W (eMt .index indexB fo ga)) :=
  sE_mt PySem.F.plainAttrs_list PySem.F.slot_list_index PySem.F.type_list_index (m_index cc.gx.hu) (fun d h => by cases d <;> simp [rcvB] at h; rfl) ho ha hbase hfew hline hs hplain
theorem wIsB {t : Str} {id : String} {ty : Ty} {p p2 : Pos} (ha : PE X a (tE nm X.K W fa)) (hmt : X.mg t = none) (hvt : bootBuiltins t = some (.type id)) (g : TyG nm X.K ty (.type id)) (hm : X.mg "isinstance" = none) (hgt : Gl X t := by rfl) (hnt : t ≠ "__name__" := by decide) (hdt : (t == ("__debug__" : Str)) = false := by decide) (hg : Gl X "isinstance" := by rfl)
    (he1 : starEach [a, .Name t p2] X.env = (false, eval a X.env) :: starEach [.Name t p2] X.env := by rfl) (he2 : starEach [Expr.Name t p2] X.env = (false, eval (.Name t p2) X.env) :: starEach [] X.env := by rfl) (hpl : (backTo pos (starEach [Expr.Name t p2] X.env)).any (·.1) = false := by rfl) :
    PE X (.Call (.Name "isinstance" p) [a, .Name t p2] [] pos) (tE nm X.K W (eIs fa ty)) := sE_isi ha (pe_bltn hgt hmt hvt (show RelV (.ty id) (.type id) from rfl) hnt hdt) (.ty id) g hg hm he1 he2 hpl
theorem wIsC {t : Str} {ty : Ty} {C : Addr} {p p2 : Pos} (ha : PE X a (tE nm X.K W fa)) (hmt : X.mg t = some (.ref C)) (g : TyG nm X.K ty (.ref C)) (hm : X.mg "isinstance" = none) (hgt : Gl X t := by rfl) (hdt : (t == ("__debug__" : Str)) = false := by decide) (hg : Gl X "isinstance" := by rfl)
    (he1 : starEach [a, .Name t p2] X.env = (false, eval a X.env) :: starEach [.Name t p2] X.env := by rfl) (he2 : starEach [Expr.Name t p2] X.env = (false, eval (.Name t p2) X.env) :: starEach [] X.env := by rfl) (hpl : (backTo pos (starEach [Expr.Name t p2] X.env)).any (·.1) = false := by rfl) :
    PE X (.Call (.Name "isinstance" p) [a, .Name t p2] [] pos) (tE nm X.K W (eIs fa ty)) := sE_isi ha (pe_glob hgt hmt (show RelV (.ref C) (.ref C) from rfl) hdt) (.own C) g hg hm he1 he2 hpl
theorem wCa (cc : Cc gd X W k) {x : Str} {p : Pos} {j n : Nat} {g : CF} (F : Df gd X.prog X.w X.K X.mg X.base nm x j n g) (hx : PA X (a :: es) (tA nm X.K W ga)) (hj : j ≤ k := by decide) (hg : Gl X x := by rfl) (hdb : (x == ("__debug__" : Str)) = false := by decide)
    (he : starEach (a :: es) X.env = (false, eval a X.env) :: starEach es X.env := by rfl) (hpl : (backTo pos (starEach es X.env)).any (·.1) = false := by rfl) : PE X (.Call (.Name x p) (a :: es) [] pos) (tE nm X.K W (eCa g ga)) := by
  obtain ⟨f, fd, ps, F1, hb, hm, hk⟩ := F.ex
  exact sE_call F1 (cc.hr.mono hj) cc.hg cc.tk hb F.gn hg hm hk hdb hx he hpl
theorem wMc (cc : Cc gd X W k) {o : Expr} {fo : EF} {cn j n : Nat} {m : Str} {g : CF} {pl : Sem Bool} {apos : Pos} (F : Dm gd X.prog X.w X.K X.mg X.base nm cn m j n g) (hcl : Cls X.K (nm.cls cn)) (hmf : ∀ f, nm.fld f ≠ m) (ho : PE X o (tE nm X.K W fo)) (hx : PA X (a :: es) (tA nm X.K W ga)) (hj : j ≤ k := by decide)
    (he : starEach (a :: es) X.env = (false, eval a X.env) :: starEach es X.env := by rfl) (hpl : (backTo pos (starEach es X.env)).any (·.1) = false := by rfl)
    (ht : eval (.Call (.Attribute o m apos) (a :: es) [] pos) X.env = (do
      let ov ← eval o X.env
      standAt apos.atName
      let (f, first) ← holding [ov] (getMethod ov m pl)
      callWith pos f first (backTo pos (starEach (a :: es) X.env)) (backToKw pos (keywordEach [] X.env))) := by rfl) : PE X (.Call (.Attribute o m apos) (a :: es) [] pos) (tE nm X.K W (eMc cn g fo ga)) := by
  obtain ⟨f, fd, ps, F1, hb, hm⟩ := F.ex
  exact sE_mcall ho hcl hm hmf F1 (cc.hr.mono hj) cc.hg cc.tk hb F.gn hx he hpl ht
theorem wMc0 (cc : Cc gd X W k) {o : Expr} {fo : EF} {cn j n : Nat} {m : Str} {g : CF} {pl : Sem Bool} {apos : Pos} (F : Dm gd X.prog X.w X.K X.mg X.base nm cn m j n g) (hcl : Cls X.K (nm.cls cn)) (hmf : ∀ f, nm.fld f ≠ m) (ho : PE X o (tE nm X.K W fo)) (hj : j ≤ k := by decide)
    (ht : eval (.Call (.Attribute o m apos) [] [] pos) X.env = (do
      let ov ← eval o X.env
      standAt apos.atName
      let (f, first) ← holding [ov] (getMethod ov m pl)
      callWith pos f first (backTo pos (starEach [] X.env)) (backToKw pos (keywordEach [] X.env))) := by rfl) : PE X (.Call (.Attribute o m apos) [] [] pos) (tE nm X.K W (eMc0 cn g fo)) := by
  obtain ⟨f, fd, ps, F1, hb, hm⟩ := F.ex
  exact sE_mcall0 ho hcl hm hmf F1 (cc.hr.mono hj) cc.hg cc.tk hb F.gn ht
theorem wMk (cc : Cc gd X W k) {x : Str} {p : Pos} {cn j n : Nat} {g : CF} (F : Dm false X.prog X.w X.K X.mg X.base nm cn "__init__" j n g) (Mc : ∀ f, Meth X.K (nm.cls cn) "__init__" f → Mk X.K (nm.cls cn) f) (hm : X.mg x = some (.ref (nm.cls cn))) (hx : PA X (a :: es) (tA nm X.K W ga)) (hj : j + 1 ≤ k := by decide) (hg : Gl X x := by rfl) (hdb : (x == ("__debug__" : Str)) = false := by decide)
    (he : starEach (a :: es) X.env = (false, eval a X.env) :: starEach es X.env := by rfl) (hpl : (backTo pos (starEach es X.env)).any (·.1) = false := by rfl) : PE X (.Call (.Name x p) (a :: es) [] pos) (tE nm X.K W (eMk g cn ga)) := by
  obtain ⟨f, fd, ps, F1, hb, hM⟩ := F.ex
  exact sE_mk (Mc f hM) F1 (cc.hr.mono hj) cc.tk hb F.gn hg hm hdb hx he hpl
theorem wZ (cc : Cc gd X W k) {p p2 pos2 : Pos} (hml : X.mg "list" = none) (hm : X.mg "zip" = none) (hx : PA X [a, b] (tA nm X.K W ga)) (hgl : Gl X "list" := by rfl) (hg : Gl X "zip" := by rfl) (hs : starEach [a, b] X.env = (false, eval a X.env) :: starEach [b] X.env := by rfl) (hpl : (backTo pos2 (starEach [b] X.env)).any (·.1) = false := by rfl)
    (hs2 : starEach [Expr.Call (.Name "zip" p2) [a, b] [] pos2] X.env = (false, eval (.Call (.Name "zip" p2) [a, b] [] pos2) X.env) :: starEach [] X.env := by rfl) : PE X (.Call (.Name "list" p) [.Call (.Name "zip" p2) [a, b] [] pos2] [] pos) (tE nm X.K W (eZ ga)) := sE_lzip cc.gx hgl hml hg hm hx hs hpl hs2
theorem wIK {x : Str} {p : Pos} {d : Addr} {tb : Str → Option Int} (ha : PE X a (tE nm X.K W fa)) (hm : X.mg x = some (.ref d)) (T : TbS X.K X.w d tb) (hg : Gl X x := by rfl) (hdb : (x == ("__debug__" : Str)) = false := by decide) (hmk : behindInMarks .In (.Name x p) = false := by rfl) : PE X (.Compare a [.In] [.Name x p] pos) (tE nm X.K W (eIK tb fa)) := sE_inK ha hg hm hdb T hmk
theorem wGK {x : Str} {p : Pos} {d : Addr} {tb : Str → Option Int} (ha : PE X a (tE nm X.K W fa)) (hm : X.mg x = some (.ref d)) (T : TbS X.K X.w d tb) (hg : Gl X x := by rfl) (hdb : (x == ("__debug__" : Str)) = false := by decide) (hs : PlainIx a := by intro _ _; rfl) : PE X (.Subscript (.Name x p) a pos) (tE nm X.K W (eGK tb fa)) := sE_getK ha hg hm hdb T hs
theorem wGI {x : Str} {p : Pos} {d : Addr} {kvs : List (Int × Int)} (ha : PE X a (tE nm X.K W fa)) (hm : X.mg x = some (.ref d)) (T : TbI X.K d kvs) (hg : Gl X x := by rfl) (hdb : (x == ("__debug__" : Str)) = false := by decide) (hs : PlainIx a := by intro _ _; rfl) : PE X (.Subscript (.Name x p) a pos) (tE nm X.K W (eGI kvs fa)) := sE_getI ha hg hm hdb T hs
/-! tests -/
theorem wT1 (ha : PE X a (tE nm X.K W fa)) (he : ∀ whole, isTrue a X.env whole = (do let v ← whole; standAt a.pos; holding [v] (truthy v)) := by intro _; rfl) : PT X a (tT nm X.K W (tE1 fa)) := sT_tr ha he
theorem wTQ (cc : Cc gd X W k) {o : Cop} (ha : PE X a (tE nm X.K W fa)) (hb : PE X b (tE nm X.K W fb)) (hm : behindInMarks (cpA o) b = false := by rfl) : PT X (.Compare a [cpA o] [b] pos) (tT nm X.K W (tQ o fa fb)) := sT_cmp cc.gx ha hb hm
theorem wTN (ha : PT X a (tT nm X.K W ft)) : PT X (.UnaryOp .Not a pos) (tT nm X.K W (tN ft)) := sT_not ha
theorem wTA {rest : List Expr} (ha : PT X a (tT nm X.K W ft)) (hb : PW X (.BoolOp .And (b :: rest) pos) (tT nm X.K W fu)) : PW X (.BoolOp .And (a :: b :: rest) pos) (tT nm X.K W (tAn ft fu)) := sT_and ha hb
theorem wTO {rest : List Expr} (ha : PT X a (tT nm X.K W ft)) (hb : PW X (.BoolOp .Or (b :: rest) pos) (tT nm X.K W fu)) : PW X (.BoolOp .Or (a :: b :: rest) pos) (tT nm X.K W (tOr ft fu)) := sT_or ha hb
/-! arguments -/
theorem wAN : PA X [] (tA nm X.K W aN) := sA_nil
theorem wAC (ha : PE X a (tE nm X.K W fa)) (hr : PA X es (tA nm X.K W ga)) (hs : starEach (a :: es) X.env = (false, eval a X.env) :: starEach es X.env := by rfl) : PA X (a :: es) (tA nm X.K W (aC fa ga)) := sA_cons ha hr hs
theorem wAS {p : Pos} (ha : PE X a (tE nm X.K W fa)) (hr : PA X es (tA nm X.K W ga)) : PA X (.Starred a p :: es) (tA nm X.K W (aS fa ga)) := sA_star ha hr
/-! what is walked -/
theorem wiS {tgx : Expr} (ha : PE X a (tE nm X.K W fa)) : PI X tgx a (tI nm X.K W (iS fa)) := sI_seq ha
theorem wiR1 {tgx : Expr} {p : Pos} (hm : X.mg "range" = none) (hx : PA X [b] (tA nm X.K W ga)) (hg : Gl X "range" := by rfl) (hs : starEach [b] X.env = [(false, eval b X.env)] := by rfl) : PI X tgx (.Call (.Name "range" p) [b] [] pos) (tI nm X.K W (iR1 ga)) := sI_rng1 hg hm hx hs
theorem wiR2 {tgx : Expr} {p : Pos} (hm : X.mg "range" = none) (hx : PA X [a, b] (tA nm X.K W ga)) (hg : Gl X "range" := by rfl) (hs : starEach [a, b] X.env = [(false, eval a X.env), (false, eval b X.env)] := by rfl) (hs2 : starEach [b] X.env = [(false, eval b X.env)] := by rfl) : PI X tgx (.Call (.Name "range" p) [a, b] [] pos) (tI nm X.K W (iR2 ga)) := sI_rng2 hg hm hx hs hs2
theorem wiZ {p tpos : Pos} {elts : List Expr} {kk : Nat} (hm : X.mg "zip" = none) (hx : PA X [a, b] (tA nm X.K W ga)) (hg : Gl X "zip" := by rfl) (hs : starEach [a, b] X.env = (false, eval a X.env) :: starEach [b] X.env := by rfl) (hpl : (backTo pos (starEach [b] X.env)).any (·.1) = false := by rfl) : PI X (.Tuple elts kk tpos) (.Call (.Name "zip" p) [a, b] [] pos) (tI nm X.K W (iZ ga)) := sI_zip hg hm hx hs hpl
theorem wiE {p tpos : Pos} {elts : List Expr} {kk : Nat} (hm : X.mg "enumerate" = none) (hx : PA X [a] (tA nm X.K W ga)) (hg : Gl X "enumerate" := by rfl) (hs : starEach [a] X.env = [(false, eval a X.env)] := by rfl) : PI X (.Tuple elts kk tpos) (.Call (.Name "enumerate" p) [a] [] pos) (tI nm X.K W (iE ga)) := sI_enm hg hm hx hs
end
end PM

namespace PM
open PySem PySem.Spec PyProof.Rows L2

section
variable {gd : Bool} {X : Cx} {nm : Nm} {W : WX} {k : Nat} {pos : Pos} {a b c : Expr} {es : List Expr} {fa fb fc : EF} {ga gb : AF} {ft fu : TF} {fs fr : SF} {ss tt : List Stmt}
theorem wgN {i : Nat} {x : Str} {px : Pos} (cc : Cc gd X W k) (hi : X.N[i]? = some x := by rfl) (hx : Loc X.env.scope x := by first | exact .inl rfl | exact .inr rfl) (hf : X.fn x = true ∨ X.env.scope.names.lookup x = some .local := by first | exact .inl rfl | exact .inr rfl) : PG X (.Name x px) (gName i) := pg_name cc.gx.nd hi hx hf
theorem wgT2 {i j : Nat} {x y : Str} {px py pt : Pos} {kt : Nat} (cc : Cc gd X W k) (hi : X.N[i]? = some x := by rfl) (hj : X.N[j]? = some y := by rfl) (hx : Loc X.env.scope x := by first | exact .inl rfl | exact .inr rfl) (hf : X.fn x = true ∨ X.env.scope.names.lookup x = some .local := by first | exact .inl rfl | exact .inr rfl)
    (hy : Loc X.env.scope y := by first | exact .inl rfl | exact .inr rfl) (hfy : X.fn y = true ∨ X.env.scope.names.lookup y = some .local := by first | exact .inl rfl | exact .inr rfl) : PG X (.Tuple [.Name x px, .Name y py] kt pt) (gTup X.K [i, j].length (gNames [i, j])) :=
  pg_tup cc.gx.calm (pgs_cons (pg_name cc.gx.nd hi hx hf) (pgs_cons (pg_name cc.gx.nd hj hy hfy) pgs_nil)) (by rfl) (by rfl)
theorem wgs {i : Nat} {x : Str} {px : Pos} (h : PG X (.Name x px) (gName i)) : PG X (.Name x px) (tG nm X.K W (gN i)) := sG_name h
theorem wgS (ha : PE X a (tE nm X.K W fa)) (hb : PE X b (tE nm X.K W fb)) (hs : ∀ v, assign (.Subscript a b pos) X.env v = (do
      let ov ← holding [v] (eval a X.env)
      let iv ← holding [v, ov] (eval b X.env)
      standAt pos
      holding [v, ov, iv] (setItem ov iv v)
      release [v, ov, iv] []) := by intro _; rfl) : PG X (.Subscript a b pos) (tG nm X.K W (gS fa fb)) := sG_sub ha hb hs
theorem wgLN : PGs X [] (tGs nm X.K W (gL [])) := sGs_nil.imp fun v σ H Q h => by
  obtain ⟨fr, ρ, G, e, M, ds, s, r, h⟩ := h
  refine ⟨fr, ρ, G, e, M, ds, s, r, ?_⟩
  cases ds <;> exact h
theorem wgLC {g : GF} {l : List GF} (h1 : PG X a (tG nm X.K W g)) (h2 : PGs X es (tGs nm X.K W (gL l))) (hs : (assignEach (a :: es) X.env).map (·.2) = assign a X.env :: (assignEach es X.env).map (·.2) := by rfl) : PGs X (a :: es) (tGs nm X.K W (gL (g :: l))) := (sGs_cons h1 h2 hs).imp fun v σ H Q h => by
  obtain ⟨fr, ρ, G, e, M, ds, s, r, h⟩ := h
  refine ⟨fr, ρ, G, e, M, ds, s, r, ?_⟩
  cases ds <;> exact h
theorem wgT {j : Nat} {l : List GF} (cc : Cc gd X W k) (h : PGs X es (tGs nm X.K W (gL l))) (hn : (assignEach es X.env).length = l.length := by rfl) (hst : (assignEach es X.env).findIdx? (·.1) = none := by rfl) : PG X (.Tuple es j pos) (tG nm X.K W (gT l)) := sG_tup cc.gx h hn hst
/-! statements -/
theorem wsN : PSs X [] (tS nm X.K W sN) := sS_nil
theorem wsC {s : Stmt} (h1 : PS X s (tS nm X.K W fs)) (h2 : PSs X ss (tS nm X.K W fr)) : PSs X (s :: ss) (tS nm X.K W (sC fs fr)) := sS_cons h1 h2
theorem wsPs : PS X (.Pass pos) (tS nm X.K W nxt) := sS_pass
theorem wsE (ha : PE X a (tE nm X.K W fa)) (hs : swapsWith a none pos.line X.env = pure false := by rfl) : PS X (.Expr a pos) (tS nm X.K W (sE' fa)) := sS_expr ha hs
theorem wsA {i : Nat} {x : Str} {px : Pos} (hg : PG X (.Name x px) (gName i)) (ha : PE X a (tE nm X.K W fa)) (hs : swapsWithSole [.Name x px] a pos.line X.env = pure false := by rfl) (hw : swappedStores [.Name x px] a X.env = pure none := by rfl) : PS X (.Assign [.Name x px] a pos) (tS nm X.K W (sA i fa)) := sS_asg ha hg hs hw
theorem wsO {i : Nat} {x : Str} {px pl : Pos} (hg : PG X (.Name x px) (gName i)) (hx : PA X es (tA nm X.K W ga)) (hs : swapsWithSole [.Name x px] (.List es pl) pos.line X.env = pure false := by rfl) (hw : swappedStores [.Name x px] (.List es pl) X.env = pure none := by rfl) : PS X (.Assign [.Name x px] (.List es pl) pos) (tS nm X.K W (sOw i ga)) := sS_asgO hx hg hs hw
theorem wsR (ha : PE X a (tE nm X.K W fa)) : PS X (.Return (some a) pos) (tS nm X.K W (sR fa)) := sS_ret ha
theorem wsRN : PS X (.Return none pos) (tS nm X.K W sRN) := sS_retN
theorem wsI (hc : PT X c (tT nm X.K W ft)) (ha : PSs X ss (tS nm X.K W fs)) (hb : PSs X tt (tS nm X.K W fr)) : PS X (.If c ss tt pos) (tS nm X.K W (sI ft fs fr)) := sS_ite hc ha hb
theorem wsF {tgx iter : Expr} {t : Tg} {g : TG} {fi : AF} (cc : Cc gd X W k) (hp : PassesOwn (model X.prog X.w) X.A X.env X.xe) (tg : TgOk X t g) (hg : PG X tgx g) (hi : PI X tgx iter (tI nm X.K W fi)) (hb : PSs X ss (tS nm X.K W fs)) (hs : ∀ x, foldedSetIterable iter X.env x = pure x := by intro _; rfl) : PS X (.For tgx iter ss [] pos) (tS nm X.K W (sFo t fi fs)) := sS_for hp cc.gx hi hg tg hb hs
theorem wsG {tg : Expr} {g : GF} (ha : PE X a (tE nm X.K W fa)) (hg : PG X tg (tG nm X.K W g)) (hs : swapsWithSole [tg] a pos.line X.env = pure false := by rfl) (hw : swappedStores [tg] a X.env = pure none := by rfl) (h1 : (assignEach [tg] X.env).map (·.2) = [assign tg X.env] := by rfl) : PS X (.Assign [tg] a pos) (tS nm X.K W (sG g fa)) := sS_asgG ha hg hs hw h1
theorem wsP {i j : Nat} {x y : Str} {px py pt : Pos} {kt k2 : Nat} {pt2 : Pos} (cc : Cc gd X W k) (ha : PA X [a, b] (tA nm X.K W ga)) (hi : X.N[i]? = some x := by rfl) (hj : X.N[j]? = some y := by rfl) (hij : i ≠ j := by decide) (hx : X.env.scope.names.lookup x = some .local := by rfl) (hy : X.env.scope.names.lookup y = some .local := by rfl)
    (hw : swappedStores [.Tuple [.Name x px, .Name y py] kt pt] (.Tuple [a, b] k2 pt2) X.env = pure (some [x, y]) := by rfl) (hs : swapsWithSole [.Tuple [.Name x px, .Name y py] kt pt] (.Tuple [a, b] k2 pt2) pos.line X.env = pure false := by rfl) :
    PS X (.Assign [.Tuple [.Name x px, .Name y py] kt pt] (.Tuple [a, b] k2 pt2) pos) (tS nm X.K W (sG (gT [gN i, gN j]) (eT ga))) := (sS_par cc.gx hi hj hij hx hy ha hw hs).imp fun E σ H h => by
  obtain ⟨fr, ρ, G, e, M, s, h⟩ := h
  refine ⟨fr, ρ, G, e, M, s, ?_⟩
  have e1 : ∀ (d : D) (e : Ev) (M : List MO), unT 2 (fun ds e M => match ds with | [] => .bad | d :: ds => (Out.ok () (e.set i (.val d)) M : Out Unit).bind fun _ e M => match ds with | [] => .bad | d :: ds => (Out.ok () (e.set j (.val d)) M : Out Unit).bind fun _ e M => match ds with | [] => .ok () e M | _ :: _ => .bad) d e M = gT [gN i, gN j] d e M := by
    intro d e M
    cases d with
    | tup xs =>
      match xs with
      | [] => rfl
      | [_] => rfl
      | [_, _] => rfl
      | _ :: _ :: _ :: _ => rfl
    | _ => rfl
  simp only [e1]
  exact h
theorem wsFs {f : Nat} {y : Str} {o : Expr} {fo : EF} {po : Pos} (ok : FlOk nm X.K f) (ho : PE X o (tE nm X.K W fo)) (ha : PE X a (tE nm X.K W fa)) (hy : nm.fld f = y := by rfl) (hs : swapsWith a (some (.Attribute o y po)) pos.line X.env = pure false := by rfl) : PS X (.Assign [.Attribute o y po] a pos) (tS nm X.K W (sFs fo f fa)) := by
  subst hy
  exact sS_fset ho ha hs ok.inj ok.hc
theorem wsAp {i : Nat} {x : Str} {px apos : Pos} (ha : PE X a (tE nm X.K W fa)) (hN : X.N[i]? = some x := by rfl) (hv : Vis X.env.scope x := by first | exact .inl rfl | exact .inr (.inl rfl) | exact .inr (.inr rfl)) (hd : (x == ("__debug__" : Str)) = false := by decide) (hc : (x == ("__classdict__" : Str)) = false := by decide)
    (hbase : attributeBase (.Name x px) "append" X.env (eval (.Name x px) X.env) = eval (.Name x px) X.env := by rfl) (hfew : ((backTo pos (starEach [a] X.env)).all (fun x => !x.1) && (backToKw pos (keywordEach [] X.env)).all (fun x => x.1.isSome)
      && decide ([a].length + ([] : List Keyword).length + (if ([] : List Keyword).isEmpty then 0 else 1) < 30)) = true := by rfl) (hline : (apos.endLine == pos.line) = true := by rfl) (hs : starEach [a] X.env = (false, eval a X.env) :: starEach [] X.env := by rfl)
    (hsw : swapsWith (.Call (.Attribute (.Name x px) "append" apos) [a] [] pos) none pos.line X.env = pure false := by rfl) :
    PS X (.Expr (.Call (.Attribute (.Name x px) "append" apos) [a] [] pos) pos) (tS nm X.K W (sAp i fa)) :=
  own_mt PySem.F.slot_list_append PySem.F.type_list_append mt_append (fun s hp rd h => app_step s hp rd h) hN hv hd hc ha hbase hfew hline hs hsw
theorem wsEx {i : Nat} {x : Str} {px apos : Pos} (ha : PE X a (tE nm X.K W fa)) (hN : X.N[i]? = some x := by rfl) (hv : Vis X.env.scope x := by first | exact .inl rfl | exact .inr (.inl rfl) | exact .inr (.inr rfl)) (hd : (x == ("__debug__" : Str)) = false := by decide) (hc : (x == ("__classdict__" : Str)) = false := by decide)
    (hbase : attributeBase (.Name x px) "extend" X.env (eval (.Name x px) X.env) = eval (.Name x px) X.env := by rfl) (hfew : ((backTo pos (starEach [a] X.env)).all (fun x => !x.1) && (backToKw pos (keywordEach [] X.env)).all (fun x => x.1.isSome)
      && decide ([a].length + ([] : List Keyword).length + (if ([] : List Keyword).isEmpty then 0 else 1) < 30)) = true := by rfl) (hline : (apos.endLine == pos.line) = true := by rfl) (hs : starEach [a] X.env = (false, eval a X.env) :: starEach [] X.env := by rfl)
    (hsw : swapsWith (.Call (.Attribute (.Name x px) "extend" apos) [a] [] pos) none pos.line X.env = pure false := by rfl) :
    PS X (.Expr (.Call (.Attribute (.Name x px) "extend" apos) [a] [] pos) pos) (tS nm X.K W (sEx i fa)) :=
  own_mt PySem.F.slot_list_extend PySem.F.type_list_extend mt_extend (fun s hp rd h => ext_step s hp rd h) hN hv hd hc ha hbase hfew hline hs hsw
theorem wsMa {o : Expr} {fo : EF} {apos : Pos} (ho : PE X o (tE nm X.K W fo)) (ha : PE X a (tE nm X.K W fa)) (hbase : attributeBase o "append" X.env (eval o X.env) = eval o X.env := by rfl) (hfew : ((backTo pos (starEach [a] X.env)).all (fun x => !x.1) && (backToKw pos (keywordEach [] X.env)).all (fun x => x.1.isSome)
      && decide ([a].length + ([] : List Keyword).length + (if ([] : List Keyword).isEmpty then 0 else 1) < 30)) = true := by rfl) (hline : (apos.endLine == pos.line) = true := by rfl) (hs : starEach [a] X.env = (false, eval a X.env) :: starEach [] X.env := by rfl)
    (hsw : swapsWith (.Call (.Attribute o "append" apos) [a] [] pos) none pos.line X.env = pure false := by rfl) : PS X (.Expr (.Call (.Attribute o "append" apos) [a] [] pos) pos) (tS nm X.K W (sMa fo fa)) := sS_mapp ho ha hbase hfew hline hs hsw
/-! comprehensions -/
theorem wcY : PTs X [] (tT nm X.K W cY) := sP_no
theorem wc1 (h : PT X c (tT nm X.K W ft)) : PTs X [c] (tT nm X.K W ft) := pts_one h
end
end PM

namespace PM
open PySem PySem.Spec PyProof.Rows L2

section
variable {gd : Bool} {X : Cx} {nm : Nm} {W : WX} {k : Nat} {pos : Pos} {a b c : Expr} {es : List Expr} {fa fb fc : EF} {ga gb : AF} {ft fu : TF} {fs fr : SF} {ss tt : List Stmt}
theorem wE1 {op} (ha : PE X a (tE nm X.K W fa)) : PE X (.BoolOp op [a] pos) (tE nm X.K W fa) := pe_one ha
theorem wA1 (ha : PT X a (tT nm X.K W ft)) : PW X (.BoolOp .And [a] pos) (tT nm X.K W ft) := pw_and1 ha
theorem wO1 (ha : PT X a (tT nm X.K W ft)) : PW X (.BoolOp .Or [a] pos) (tT nm X.K W ft) := pw_or1 ha
theorem wW (ha : PW X a (tT nm X.K W ft)) : PT X a (tT nm X.K W ft) := ha.pt
/-- [elt for tgx in iter if ..] -/
theorem wCo {elt tgx iter : Expr} {ifs : List Expr} {scope : Scope} (own : List (Str × Nat)) {t : Tg} {g : TG} {fi : AF} (cc : Cc gd X W k) (hi : PI X tgx iter (tI nm X.K W fi))
    (h : ∀ (s : Shared) (H : Hp) (C : Addr) (cl : List (Str × Addr)) (fp : List Addr), Cc gd (X.blk s H scope (compEnvC scope cl C X.env) fp) WF0 k → PG (X.blk s H scope (compEnvC scope cl C X.env) fp) tgx g ∧ PTs (X.blk s H scope (compEnvC scope cl C X.env) fp) ifs (tT nm X.K WF0 ft) ∧ PE (X.blk s H scope (compEnvC scope cl C X.env) fp) elt (tE nm X.K WF0 fa))
    (tg : TgOk X t g) (ok : BlkOk X.N X.env.scope scope own := by exact blkOk_by (by kernel_rfl))
    (hv : t.ns ⊆ own.map (·.2) := by decide) (hs : ∀ x, foldedSetIterable iter X.env x = pure x := by intro _; rfl) :
    PE X (.ListComp elt [⟨tgx, iter, ifs, 0⟩] scope pos) (tE nm X.K W (eCo (own.map (·.2)) t fi ft fa)) :=
  sE_comp cc.gx hi ok tg hv (fun s H C cl fp => (h s H C cl fp (cc.blk ..)).1) (fun s H C cl fp => (h s H C cl fp (cc.blk ..)).2.1) (fun s H C cl fp => (h s H C cl fp (cc.blk ..)).2.2) hs
theorem wsCo {elt tgx iter : Expr} {ifs : List Expr} {scope : Scope} (own : List (Str × Nat)) {t : Tg} {g : TG} {fi : AF} {i : Nat} {y : Str} {py : Pos} {spos : Pos} (cc : Cc gd X W k) (hi : PI X tgx iter (tI nm X.K W fi))
    (h : ∀ (s : Shared) (H : Hp) (C : Addr) (cl : List (Str × Addr)) (fp : List Addr), Cc gd (X.blk s H scope (compEnvC scope cl C X.env) fp) WF0 k → PG (X.blk s H scope (compEnvC scope cl C X.env) fp) tgx g ∧ PTs (X.blk s H scope (compEnvC scope cl C X.env) fp) ifs (tT nm X.K WF0 ft) ∧ PE (X.blk s H scope (compEnvC scope cl C X.env) fp) elt (tE nm X.K WF0 fa))
    (tg : TgOk X t g) (ok : BlkOk X.N X.env.scope scope own := by exact blkOk_by (by kernel_rfl))
    (hy : X.N[i]? = some y := by rfl) (hyl : X.env.scope.names.lookup y = some .local := by rfl)
    (hsw : swapsWith (.ListComp elt [⟨tgx, iter, ifs, 0⟩] scope pos) (some (.Name y py)) spos.line X.env = pure true := by exact sw_true rfl rfl rfl (by kernel_rfl))
    (hv : t.ns ⊆ own.map (·.2) := by decide) (hs : ∀ x, foldedSetIterable iter X.env x = pure x := by intro _; rfl) :
    PS X (.Assign [.Name y py] (.ListComp elt [⟨tgx, iter, ifs, 0⟩] scope pos) spos) (tS nm X.K W (sA i (eCo (own.map (·.2)) t fi ft fa))) :=
  sS_comp cc.gx hy hyl hsw hi ok tg hv (fun s H C cl fp => (h s H C cl fp (cc.blk ..)).1) (fun s H C cl fp => (h s H C cl fp (cc.blk ..)).2.1) (fun s H C cl fp => (h s H C cl fp (cc.blk ..)).2.2) hs
theorem wCo2 {elt tgx iter tgy iter1 : Expr} {ifs : List Expr} {scope : Scope} (own : List (Str × Nat)) (vs1 : List Nat) {t t1 : Tg} {g g1 : TG} {fi fj : AF} (cc : Cc gd X W k) (hi : PI X tgx iter (tI nm X.K W fi))
    (h : ∀ (s : Shared) (H : Hp) (C : Addr) (cl : List (Str × Addr)) (fp : List Addr), Cc gd (X.blk s H scope (compEnvC scope cl C X.env) fp) WF0 k → PG (X.blk s H scope (compEnvC scope cl C X.env) fp) tgx g ∧ PI (X.blk s H scope (compEnvC scope cl C X.env) fp) tgy iter1 (tI nm X.K WF0 fj) ∧
      PG (X.blk s H scope (compEnvC scope cl C X.env) fp) tgy g1 ∧ PTs (X.blk s H scope (compEnvC scope cl C X.env) fp) ifs (tT nm X.K WF0 ft) ∧ PE (X.blk s H scope (compEnvC scope cl C X.env) fp) elt (tE nm X.K WF0 fa))
    (tg : TgOk X t g) (tg1 : TgOk X t1 g1) (ok : BlkOk X.N X.env.scope scope own := by exact blkOk_by (by kernel_rfl))
    (hvs : ∀ i ∈ vs1, i ∈ own.map (·.2) := by decide) (hv : t.ns ⊆ own.map (·.2) := by decide) (hv1 : t1.ns ⊆ vs1 := by decide) (hs : ∀ x, foldedSetIterable iter X.env x = pure x := by intro _; rfl) (hs1 : ∀ env x, foldedSetIterable iter1 env x = pure x := by intro _ _; rfl) :
    PE X (.ListComp elt [⟨tgx, iter, [], 0⟩, ⟨tgy, iter1, ifs, 0⟩] scope pos) (tE nm X.K W (eCo2 (own.map (·.2)) t fi vs1 t1 fj ft fa)) :=
  sE_comp2 cc.gx hi ok hvs tg hv tg1 hv1 (fun s H C cl fp => (h s H C cl fp (cc.blk ..)).1) (fun s H C cl fp => (h s H C cl fp (cc.blk ..)).2.1) (fun s H C cl fp => (h s H C cl fp (cc.blk ..)).2.2.1) (fun s H C cl fp => (h s H C cl fp (cc.blk ..)).2.2.2.1) (fun s H C cl fp => (h s H C cl fp (cc.blk ..)).2.2.2.2) hs hs1
theorem wsCo2 {elt tgx iter tgy iter1 : Expr} {ifs : List Expr} {scope : Scope} (own : List (Str × Nat)) (vs1 : List Nat) {t t1 : Tg} {g g1 : TG} {fi fj : AF} {i : Nat} {y : Str} {py : Pos} {spos : Pos} (cc : Cc gd X W k) (hi : PI X tgx iter (tI nm X.K W fi))
    (h : ∀ (s : Shared) (H : Hp) (C : Addr) (cl : List (Str × Addr)) (fp : List Addr), Cc gd (X.blk s H scope (compEnvC scope cl C X.env) fp) WF0 k → PG (X.blk s H scope (compEnvC scope cl C X.env) fp) tgx g ∧ PI (X.blk s H scope (compEnvC scope cl C X.env) fp) tgy iter1 (tI nm X.K WF0 fj) ∧
      PG (X.blk s H scope (compEnvC scope cl C X.env) fp) tgy g1 ∧ PTs (X.blk s H scope (compEnvC scope cl C X.env) fp) ifs (tT nm X.K WF0 ft) ∧ PE (X.blk s H scope (compEnvC scope cl C X.env) fp) elt (tE nm X.K WF0 fa))
    (tg : TgOk X t g) (tg1 : TgOk X t1 g1) (ok : BlkOk X.N X.env.scope scope own := by exact blkOk_by (by kernel_rfl))
    (hy : X.N[i]? = some y := by rfl) (hyl : X.env.scope.names.lookup y = some .local := by rfl)
    (hsw : swapsWith (.ListComp elt [⟨tgx, iter, [], 0⟩, ⟨tgy, iter1, ifs, 0⟩] scope pos) (some (.Name y py)) spos.line X.env = pure true := by exact sw_true rfl rfl rfl (by kernel_rfl))
    (hvs : ∀ i ∈ vs1, i ∈ own.map (·.2) := by decide) (hv : t.ns ⊆ own.map (·.2) := by decide) (hv1 : t1.ns ⊆ vs1 := by decide) (hs : ∀ x, foldedSetIterable iter X.env x = pure x := by intro _; rfl) (hs1 : ∀ env x, foldedSetIterable iter1 env x = pure x := by intro _ _; rfl) :
    PS X (.Assign [.Name y py] (.ListComp elt [⟨tgx, iter, [], 0⟩, ⟨tgy, iter1, ifs, 0⟩] scope pos) spos) (tS nm X.K W (sA i (eCo2 (own.map (·.2)) t fi vs1 t1 fj ft fa))) :=
  sS_comp2 cc.gx hy hyl hsw hi ok hvs tg hv tg1 hv1 (fun s H C cl fp => (h s H C cl fp (cc.blk ..)).1) (fun s H C cl fp => (h s H C cl fp (cc.blk ..)).2.1) (fun s H C cl fp => (h s H C cl fp (cc.blk ..)).2.2.1) (fun s H C cl fp => (h s H C cl fp (cc.blk ..)).2.2.2.1) (fun s H C cl fp => (h s H C cl fp (cc.blk ..)).2.2.2.2) hs hs1
/-- an exception class of the module that keeps one thing -/
structure Ec (P : Program) (w : World) (K : Frg) (mg : Str → Option Value) (base : Heap) (nm : Nm) (x : Str) (cn f k : Nat) : Prop where
  ok : OexC K (nm.exc cn)
  hm : mg x = some (.ref (nm.exc cn))
  ini : ∃ fI fd ps, PySem.W.findIn K (.ref (nm.exc cn)) "__init__" = some (some (.ref fI)) ∧ PySem.W.typeIn K (.ref fI) = some (.type "function") ∧ FnOk P w K mg base (L2.CX P w) k fI fd ps (spOI (nm.exc cn) (nm.fld f)) ∧ Binds K fd ps []
/-- raise C(e) -/
theorem wsRa {j f cn : Nat} {x : Str} {p pc : Pos} (cc : Cc gd X W k) (T : Ec X.prog X.w X.K X.mg X.base nm x cn f j) (ha : PE X a (tE nm X.K W fa)) (hj : j + 1 ≤ k := by decide) (hg : Gl X x := by rfl) (hdb : (x == ("__debug__" : Str)) = false := by decide)
    (he : starEach [a] X.env = (false, eval a X.env) :: starEach [] X.env := by rfl) : PS X (.Raise (some (.Call (.Name x p) [a] [] pc)) none pos) (tS nm X.K W (sRa cn f fa)) := by
  obtain ⟨fI, fd, ps, h1, h2, h3, h4⟩ := T.ini
  exact sS_raise cc.gx cc.tk T.ok h1 h2 h3 (cc.hr.mono hj) h4 hg T.hm ha hdb he (passes_call cc.tk fun _ _ _ _ h => h.elim)
end
end PM

namespace PM
open PySem PySem.Spec PyProof.Rows L2
/-- a class's part -/
def mem (s : Stmt) (j : Nat) : Stmt := match s with
  | .ClassDef _ _ _ b _ _ _ _ _ _ _ => b.getD j (.Pass ⟨0, 0, 0, 0⟩)
  | _ => .Pass ⟨0, 0, 0, 0⟩
abbrev FnQ (K : Frg) (x q : Str) (st : Stmt) (f : Addr) (fd : FuncData) : Prop := FunD K x q (defArgs st) (defBody st) (defScope st) [] [] f fd
section
variable {gd : Bool} {P : Program} {w : World} {K : Frg} {mg : Str → Option Value} {base : Heap} {nm : Nm} {x qual : Str} {params : Arguments} {body : List Stmt} {scope : Scope} {f : Addr} {fd : FuncData} {ps : List Str} {k n m cn : Nat} {b : SF}
theorem df_mk (F : FunD K x qual params body scope [] [] f fd) (hm : mg x = some (.ref f)) (hb : Binds K fd ps []) (Fn : FnG gd P w K mg base k f fd ps (spD nm K n (defC n m b))) : Df gd P w K mg base nm x k n (defC n m b) :=
  ⟨⟨f, fd, ps, Fn, hb, hm, F.kp⟩, defC_len⟩
theorem dm_mk (F : FunD K x qual params body scope [] [] f fd) (hm : Meth K (nm.cls cn) x f) (hb : Binds K fd ps []) (Fn : FnG gd P w K mg base k f fd ps (spD nm K n (defC n m b))) : Dm gd P w K mg base nm cn x k n (defC n m b) :=
  ⟨⟨f, fd, ps, Fn, hb, hm⟩, defC_len⟩
end
section
variable {gd : Bool} {X : Cx} {nm : Nm} {W : WX} {k : Nat} {pos : Pos} {a b c : Expr} {es : List Expr} {fa fb fc : EF}
theorem wGInt {x : Str} {i : Int} (h : ∃ t, X.mg x = some (.int i t)) (hg : Gl X x := by rfl) (hd : (x == ("__debug__" : Str)) = false := by decide) : PE X (.Name x pos) (tE nm X.K W (eC (.int i))) := by
  obtain ⟨t, h⟩ := h
  exact wGlo (v := .int i) h ⟨t, rfl⟩ (fun _ _ => .int _) hg hd
theorem wGStr {x z : Str} (h : ∃ t, X.mg x = some (.str z t)) (hg : Gl X x := by rfl) (hd : (x == ("__debug__" : Str)) = false := by decide) : PE X (.Name x pos) (tE nm X.K W (eC (.str z))) := by
  obtain ⟨t, h⟩ := h
  exact wGlo (v := .str z) h ⟨t, rfl⟩ (fun _ _ => .str _) hg hd
theorem wIKe {x : Str} {p : Pos} {tb : Str → Option Int} (h : ∃ d, X.mg x = some (.ref d) ∧ TbS X.K X.w d tb) (ha : PE X a (tE nm X.K W fa)) (hg : Gl X x := by rfl) (hdb : (x == ("__debug__" : Str)) = false := by decide) (hmk : behindInMarks .In (.Name x p) = false := by rfl) : PE X (.Compare a [.In] [.Name x p] pos) (tE nm X.K W (eIK tb fa)) := by
  obtain ⟨d, h1, h2⟩ := h
  exact wIK ha h1 h2 hg hdb hmk
theorem wGKe {x : Str} {p : Pos} {tb : Str → Option Int} (h : ∃ d, X.mg x = some (.ref d) ∧ TbS X.K X.w d tb) (ha : PE X a (tE nm X.K W fa)) (hg : Gl X x := by rfl) (hdb : (x == ("__debug__" : Str)) = false := by decide) (hs : PlainIx a := by intro _ _; rfl) : PE X (.Subscript (.Name x p) a pos) (tE nm X.K W (eGK tb fa)) := by
  obtain ⟨d, h1, h2⟩ := h
  exact wGK ha h1 h2 hg hdb hs
theorem wGIe {x : Str} {p : Pos} {kvs : List (Int × Int)} (h : ∃ d, X.mg x = some (.ref d) ∧ TbI X.K d kvs) (ha : PE X a (tE nm X.K W fa)) (hg : Gl X x := by rfl) (hdb : (x == ("__debug__" : Str)) = false := by decide) (hs : PlainIx a := by intro _ _; rfl) : PE X (.Subscript (.Name x p) a pos) (tE nm X.K W (eGI kvs fa)) := by
  obtain ⟨d, h1, h2⟩ := h
  exact wGI ha h1 h2 hg hdb hs
end
end PM

namespace PM
open PySem PySem.Spec PyProof.Rows L2 LamX
/-- the code object of a def that makes lambdas, with its table -/
structure LamC (base : Heap) (mg : Str → Option Value) (nm : Nm) (q : Str) (c P : Addr) : Prop where
  tb : TabB base mg c P
  hm : (P, q) ∈ nm.T
  hu : ∀ p ∈ nm.T, p.1 = P → p.2 = q
theorem def_ofL {gd : Bool} {P : Program} {w : World} {K : Frg} {mg : Str → Option Value} {base : Heap} {nm : Nm} {x qual q : Str} {params : Arguments} {body : List Stmt} {scope : Scope} {f : Addr} {fd : FuncData} {N ps : List Str} {k m : Nat} {b : SF} (F : FunD K x qual params body scope [] [] f fd) (S : FnScope N ps scope)
    (hN : N.length = ps.length + m) (hnd : N.Nodup) (hL : ∃ c T, fd.code = .ref c ∧ LamC base mg nm q c T)
    (h : ∀ (c T : Addr) (A : Around) (outer : List Env) (s : Shared) (H : Hp) (E : XK), LamC base mg nm q c T → Cc gd (cxOf (L2.CX P w) P w K mg base N qual scope f (.ref c) A outer s H E) (fun cls d _ H' => E cls d H') k → PSs (cxOf (L2.CX P w) P w K mg base N qual scope f (.ref c) A outer s H E) body (tS nm K (fun cls d _ H' => E cls d H') b)) :
    FnG gd P w K mg base (k + 1) f fd ps (spD nm K ps.length (defC ps.length m b)) := by
  obtain ⟨c, T, hc, L⟩ := hL
  obtain ⟨oc, od, dV, kV, doc, pm, an, cdv, ct, osl, e, lk, hcd, r⟩ := F.ex
  have ec : cdv = .ref c := by rw [e] at hc; exact hc
  subst ec
  have F' : FunD K x qual params body scope [] [] f fd := F
  subst e
  refine fnG_of lk hcd S (fun vs H Q E h => h.1) fun A outer s H vs Q E hgd hr ⟨hl, ρ, G, M, ds, wf, rd, hp⟩ => ⟨_, h c T A outer s H E L ⟨⟨hnd, rfl, by have := hr.un; show (A.deeper _).units + 65 < cLine; omega⟩, hr, takes_of rfl rfl rfl rfl, hgd⟩, ?_⟩
  refine ⟨⟨H, G, ρ⟩, ρ, G, _, M, sr_start wf rd (m := m) (by rw [hN, hl]), ?_⟩
  have hd : ds.length = ps.length := by rw [rd.length]; exact hl
  unfold defC at hp
  rw [if_pos hd] at hp
  cases q : b (ds.map .val ++ List.replicate m .non) M with
  | bad => rw [q] at hp; exact hp
  | err c fv e' M' =>
    rw [q] at hp
    exact fun σ' H' G' ρ' dx g p s' er => hp H' G' ρ' dx s'.kp s'.wf er
  | ok fl e' M' =>
    rw [q] at hp
    cases fl with
    | nx => exact fun σ' H' G' ρ' g p s' => hp .non H' G' ρ' s'.kp s'.wf .non
    | rt d => exact fun v σ' H' G' ρ' g p s' rv => hp v H' G' ρ' s'.kp s'.wf rv
    | bk => exact hp.elim
    | ct => exact hp.elim
/-- a def that tries what it is called with -/
structure Ld (P : Program) (w : World) (K : Frg) (mg : Str → Option Value) (base : Heap) (nm : Nm) (x : Str) (cn f : Nat) (dn : Str) : Prop where
  ex : ∃ (g : Addr) (fd : FuncData) (pg : Arguments) (bg : List Stmt) (sg : Scope) (Ng : List Str) (a : Str), FunD K x x pg bg sg [] [] g fd ∧ mg x = some (.ref g) ∧ Binds K fd [a] [] ∧ FnScope Ng [a] sg ∧ Ng[0]? = some a ∧ Vis sg a ∧ (a == ("__debug__" : Str)) = false ∧ (a == ("__classdict__" : Str)) = false ∧
    ∀ (X : Cx) (cdv : Value) (q : Str), X.K = K → X.mg = mg → GivesTo X Ng x sg g cdv bg a q (TTtr X.K (nm.exc cn) (nm.fld f) dn)
  inj : ∀ h, nm.fld h = nm.fld f → h = f
section
variable {gd : Bool} {X : Cx} {nm : Nm} {W : WX} {k : Nat} {fb : EF}
theorem wLa {x q : Str} {cn f j : Nat} {dn : Str} {c P : Addr} {params : Arguments} {body : Expr} {scope : Scope} {p lpos pos : Pos} (cc : Cc gd X W k) (L : Ld X.prog X.w X.K X.mg X.base nm x cn f dn) (T : LamC X.base X.mg nm q c P)
    (hbody : ∀ (A : Around) (outer : List Env) (s : Shared) (H : Hp) (E : XK) (f c' : Addr), Cc false (lamCx X A outer s H E scope f c') (fun cls d _ H' => E cls d H') j → PE (lamCx X A outer s H E scope f c') body (tE nm X.K (fun cls d _ H' => E cls d H') fb))
    (hj : j + 2 ≤ k := by decide) (hg : Gl X x := by rfl) (hcode : X.env.code = .ref c := by rfl) (hq : X.env.qual ++ "<lambda>" = q := by rfl) (hS : LamS X.env.scope scope := by exact LamX.lamS_by (by kernel_rfl)) (hdef : defaultsOf params X.env = ([], []) := by rfl)
    (hbind : ∀ (q : Str) (cl : List (Str × Addr)) (pm cv ctv : Value), bindArgs (PySem.W.kla_fn "<lambda>" q params body scope cl pm cv ctv) ⟨[], []⟩ = pure [] := by intros; rfl) (hdb : (x == ("__debug__" : Str)) = false := by decide) :
    PE X (.Call (.Name x p) [.Lambda params body scope lpos] [] pos) (tE nm X.K W (eLa cn f dn fb)) := by
  subst hq
  obtain ⟨g, fd, pg, bg, sg, Ng, a, F, hm, hb, Sg, hNg, hva, d1, d2, hG⟩ := L.ex
  obtain ⟨oc, od, dV, kV, doc, pm, an, cdv, ct, osl, e, lk, hcd, _, _⟩ := F.ex
  subst e
  exact sE_lam hg hm F.kp lk hcd hb Sg hNg hva (hG X cdv _ rfl rfl) T.tb hcode T.hm T.hu (cc.hr.mono hj) hS hdef hbind L.inj (fun A outer s H E f c' hr => hbody A outer s H E f c' (cc.lam A outer s H E scope f c' hr)) hdb d1 d2
end
end PM

namespace PM
open PySem PySem.Spec PyProof.Rows L2 He
/-! ### facts of the head, as Bools -/
def oexB (K : Frg) (C : Addr) : Bool := (match K.lookup C with
  | some ⟨.type t, _, .cls cd, sl⟩ => (match cd.mro, sl.toList with
    | .ref C' :: bm, [_, _, _, _, some (.builtin n), _] => t == "type" && C' == C && n == "ValueError.__new__" && !cd.hasDel && cd.hasDict && PySem.HandSPX.refsVE bm
    | _, _ => false)
  | _ => false) && (eqO (PySem.W.findIn K (.ref C) "__setattr__") (some (some (.builtin "object.__setattr__"))) && (decide (PySem.W.subIn K (.ref C) (.type "BaseException") = some true) && (decide (PySem.W.typeIn K (.ref C) = some (.type "type")) && PySem.W.keepIn K (.ref C))))
theorem oexB_ok {K : Frg} {C : Addr} (h : oexB K C = true) : OexC K C := by
  obtain ⟨q, h⟩ := ba h
  obtain ⟨h1, h⟩ := ba h
  obtain ⟨h2, h⟩ := ba h
  obtain ⟨h3, h4⟩ := ba h
  refine ⟨?_, eqO_ok h1, of_decide_eq_true h2, of_decide_eq_true h3, h4⟩
  split at q
  · rename_i t dd cd sl ho
    split at q
    · rename_i C' bm k0 k1 k2 k3 n k5 hm hs
      simp only [Bool.and_eq_true, beq_iff_eq, Bool.not_eq_true'] at q
      obtain ⟨⟨⟨⟨⟨rfl, rfl⟩, rfl⟩, hdel⟩, hdd⟩, hr⟩ := q
      obtain ⟨nm, bs, mro, ns, qn, hd, sn, sub, ab, col, del⟩ := cd
      dsimp only at hm hdel hdd
      subst hm hdel hdd
      have hsl : sl = #[k0, k1, k2, k3, some (.builtin "ValueError.__new__"), k5] := by
        obtain ⟨l⟩ := sl
        simp only at hs
        rw [hs]
      subst hsl
      exact ⟨nm, qn, ns, bs, bm, sn, sub, ab, col, dd, k0, k1, k2, k3, k5, ho, hr⟩
    · cases q
  · cases q
def insB (K : Frg) (C : Addr) : Bool := eqO (PySem.W.findIn K (.ref C) "__class__") (some (some (.builtin "object.__class__"))) && (eqO (PySem.W.specialIn K (.builtin "object.__class__") "__get__") (some (some (.builtin "getset_descriptor.__get__"))) &&
  (decide (PySem.W.takesIn K (.builtin "object.__class__") = some true) && decide (PySem.W.mroIn K C (.type "object") = some true)))
theorem insB_ok {K : Frg} {C : Addr} (c : Cls K C) (h : insB K C = true) : InsC K C := by
  obtain ⟨h1, h⟩ := ba h
  obtain ⟨h2, h⟩ := ba h
  obtain ⟨h3, h4⟩ := ba h
  exact ⟨c, eqO_ok h1, eqO_ok h2, of_decide_eq_true h3, of_decide_eq_true h4⟩
/-- cs: the module's classes of instances -/
def tyB (K : Frg) (cs : List Addr) (ty : Ty) (cu : Value) : Bool := (["NoneType", "bool", "int", "str", "tuple", "list"].all fun T => decide (PySem.W.kitOne K (.type T) cu = some (isiB T ty))) &&
  cs.all fun C => match ty with | .own _ => true | _ => decide (PySem.W.kitOne K (.ref C) cu = some false)
theorem tyB_ok {K : Frg} {cs : List Addr} {nm : Nm} {ty : Ty} {cu : Value} (hn : ∀ k, nm.cls k ∈ cs) (hi : ∀ C ∈ cs, InsC K C) (h : tyB K cs ty cu = true) (hy : ∀ c, ty ≠ .own c) : TyG nm K ty cu := by
  obtain ⟨h1, h2⟩ := ba h
  refine ⟨fun T hT => of_decide_eq_true (List.all_eq_true.mp h1 T hT), fun k => ⟨hi _ (hn k), ?_⟩⟩
  have h3 := List.all_eq_true.mp h2 _ (hn k)
  cases ty with
  | own c => exact absurd rfl (hy c)
  | _ => exact of_decide_eq_true h3
theorem tyO_ok {K : Frg} {cs : List Addr} {nm : Nm} {c : Nat} (hn : ∀ k, nm.cls k ∈ cs) (hi : ∀ C ∈ cs, InsC K C) (h : tyB K cs (.own c) (.ref (nm.cls c)) = true) (h2 : PySem.W.kitOne K (.ref (nm.cls c)) (.ref (nm.cls c)) = some true) : TyG nm K (.own c) (.ref (nm.cls c)) :=
  ⟨fun T hT => of_decide_eq_true (List.all_eq_true.mp (ba h).1 T hT), fun k => ⟨hi _ (hn k), h2⟩⟩
def tbIB (K : Frg) (d : Addr) (kvs : List (Int × Int)) : Bool := (match K.lookup d with
  | some ⟨.type c, none, .dict es _, sl⟩ => c == "dict" && sl.isEmpty && entI es.toList kvs
  | _ => false) && !(d == sysModules)
theorem tbIB_ok {K : Frg} {d : Addr} {kvs : List (Int × Int)} (h : tbIB K d kvs = true) : TbI K d kvs := by
  obtain ⟨q, h⟩ := ba h
  refine ⟨?_, by simpa using h⟩
  split at q
  · rename_i c es n sl ho
    simp only [Bool.and_eq_true, beq_iff_eq] at q
    obtain ⟨⟨rfl, h2⟩, h3⟩ := q
    have h2 := Array.isEmpty_iff.mp h2
    subst h2
    exact ⟨es, n, ho, h3⟩
  · cases q
def entS : List DictEntry → List (Str × Int) → Bool
  | [], [] => true
  | e :: r, p :: q => (match e.key with | .str x _ => x == p.1 | _ => false) && (match e.val with | .int i _ => i == p.2 | _ => false) && entS r q
  | _, _ => false
theorem entS_find : ∀ {l : List DictEntry} {kvs : List (Str × Int)} (z : Str), entS l kvs = true → (∀ v, kvs.lookup z = some v → ∃ e t, l.find? (fun e => e.key.isStr z) = some e ∧ e.val = .int v t) ∧ (kvs.lookup z = none → l.find? (fun e => e.key.isStr z) = none ∧ l.any (·.refKey) = false)
  | [], [], z, _ => ⟨fun v h => by simp at h, fun _ => ⟨rfl, rfl⟩⟩
  | [], _ :: _, z, h => by simp [entS] at h
  | _ :: _, [], z, h => by simp [entS] at h
  | e :: r, (k0, v0) :: q, z, h => by
    simp only [entS, Bool.and_eq_true] at h
    obtain ⟨⟨h1, h3⟩, h4⟩ := h
    obtain ⟨i1, i2⟩ := entS_find z h4
    cases hk : e.key with
    | str x t =>
      rw [hk] at h1
      have h1 : x = k0 := by simpa using h1
      subst h1
      by_cases e1 : x = z
      · subst e1
        have f1 : (e :: r).find? (fun e => e.key.isStr x) = some e := by
          rw [List.find?_cons_of_pos]
          rw [hk]; simp [Value.isStr]
        refine ⟨fun v hv => ?_, fun hv => ?_⟩
        · simp at hv
          subst hv
          cases hw : e.val with
          | int i t' =>
            rw [hw] at h3
            have : i = v0 := by simpa using h3
            exact ⟨e, t', f1, by rw [hw, this]⟩
          | _ => rw [hw] at h3; cases h3
        · simp at hv
      · have f1 : (e :: r).find? (fun e => e.key.isStr z) = r.find? (fun e => e.key.isStr z) := by
          rw [List.find?_cons_of_neg]
          rw [hk]; simpa [Value.isStr] using e1
        have e2 : ((x, v0) :: q).lookup z = q.lookup z := by
          simp only [List.lookup]
          have : (z == x) = false := by simpa using fun h => e1 h.symm
          rw [this]
        have e3 : (e :: r).any (·.refKey) = r.any (·.refKey) := by
          rw [List.any_cons]
          have : e.refKey = false := by unfold DictEntry.refKey; rw [hk]
          rw [this]; rfl
        rw [f1, e2, e3]
        exact ⟨i1, i2⟩
    | _ => rw [hk] at h1; cases h1
def tbSB (K : Frg) (d : Addr) (kvs : List (Str × Int)) : Bool := match K.lookup d with
  | some ⟨_, _, .dict es _, _⟩ => entS es.toList kvs
  | _ => false
theorem tbSB_ok {K : Frg} {w : World} {d : Addr} {kvs : List (Str × Int)} (kd : ∃ es n, KDict K w d es n) (h : tbSB K d kvs = true) : TbS K w d fun z => kvs.lookup z := by
  refine ⟨kd, fun z => ?_⟩
  unfold tbSB at h
  split at h
  · rename_i oc od es n sl ho
    obtain ⟨h1, h2⟩ := entS_find z h
    unfold PySem.W.nsIn
    rw [ho]
    simp only
    cases q : kvs.lookup z with
    | some v =>
      obtain ⟨e, t, e1, e2⟩ := h1 v q
      refine ⟨some e.val, by rw [e1], fun i hi => ?_, fun z => by cases z⟩
      cases hi
      exact ⟨_, rfl, t, e2⟩
    | none =>
      obtain ⟨e1, e2⟩ := h2 q
      exact ⟨none, by rw [e1, e2]; rfl, fun i hi => (by cases hi), fun _ => rfl⟩
  · cases h
end PM

namespace PM
open PySem PySem.Spec PyProof.Rows L2 He
/-- fields' names by number; behind the last one names that nothing has -/
def fldOf (l : List Str) (f : Nat) : Str := l.getD f ⟨Array.replicate (f + 40) 95⟩
theorem fldOf_in {l : List Str} {f : Nat} (h : f < l.length) : fldOf l f = l[f] := by
  unfold fldOf
  rw [List.getD_eq_getElem?_getD, List.getElem?_eq_getElem h]; rfl
theorem fldOf_out {l : List Str} {f : Nat} (h : ¬ f < l.length) : fldOf l f = ⟨Array.replicate (f + 40) 95⟩ := by
  unfold fldOf
  rw [List.getD_eq_getElem?_getD, List.getElem?_eq_none (by omega)]; rfl
theorem fld_inj {l : List Str} (hn : l.Nodup) (hs : ∀ x ∈ l, x.cps.size < 40) {f : Nat} (hf : f < l.length) : ∀ g, fldOf l g = fldOf l f → g = f := fun g e => by
  rw [fldOf_in hf] at e
  by_cases hg : g < l.length
  · rw [fldOf_in hg] at e
    exact (List.getElem_inj hn).mp e
  · rw [fldOf_out hg] at e
    have := hs _ (List.getElem_mem hf)
    rw [← e] at this
    simp at this
    omega
theorem fld_nof {l : List Str} {x : Str} (hx : x ∉ l) (hs : x.cps.size < 40) : ∀ f, fldOf l f ≠ x := fun f e => by
  by_cases hf : f < l.length
  · rw [fldOf_in hf] at e
    exact hx (e ▸ List.getElem_mem hf)
  · rw [fldOf_out hf] at e
    rw [← e] at hs
    simp at hs
    omega
/-- the names of a module's instance classes, exceptions, fields -/
def nmOf (K : Frg) (c0 : Str) (cs xs fs : List Str) (T : List (Addr × Str)) : Nm := ⟨fun k => ga K (cs.getD k c0), fun k => ga K (xs.getD k c0), fldOf fs, T⟩
theorem nmOf_cls {K : Frg} {c0 : Str} {cs xs fs : List Str} {T : List (Addr × Str)} (h : c0 ∈ cs) : ∀ k, (nmOf K c0 cs xs fs T).cls k ∈ cs.map (ga K) := fun k => by
  show ga K (cs.getD k c0) ∈ _
  rw [List.getD_eq_getElem?_getD]
  cases q : cs[k]? with
  | none => exact List.mem_map.mpr ⟨c0, h, rfl⟩
  | some x => exact List.mem_map.mpr ⟨x, List.mem_of_getElem? q, rfl⟩
/-- an exception class of the head -/
theorem ec_of {P : Program} {w : World} {K : Frg} {mg : Str → Option Value} {base : Heap} {nm : Nm} {x q s1 x1 : Str} {cn f : Nat} {st : Stmt} {fI : Addr} {fd : FuncData} {p1 p2 p3 p4 : Pos} (hx : oexB K (nm.exc cn) = true) (hm : mg x = some (.ref (nm.exc cn)))
    (hi : PySem.W.findIn K (.ref (nm.exc cn)) "__init__" = some (some (.ref fI))) (ht : PySem.W.typeIn K (.ref fI) = some (.type "function")) (F : FnQ K "__init__" q st fI fd) (hno : PySem.W.findIn K (.ref (nm.exc cn)) (nm.fld f) = some none)
    (hb : defBody st = [.Assign [.Attribute (.Name s1 p1) (nm.fld f) p2] (.Name x1 p3) p4]) (S : FnScope [s1, x1] [s1, x1] (defScope st)) (hv1 : Vis (defScope st) s1) (hv2 : Vis (defScope st) x1) (d1 : (s1 == ("__debug__" : Str)) = false) (d2 : (s1 == ("__classdict__" : Str)) = false) (d3 : (x1 == ("__debug__" : Str)) = false) (d4 : (x1 == ("__classdict__" : Str)) = false)
    (hs : ∀ env : Env, env.scope = defScope st → swapsWith (.Name x1 p3) (some (.Attribute (.Name s1 p1) (nm.fld f) p2)) p4.line env = pure false) (hB : Binds K fd [s1, x1] []) : Ec P w K mg base nm x cn f 1 := by
  obtain ⟨oc, od, dV, kV, doc, pm, an, cdv, ct, osl, e, lk, hcd, _, _⟩ := F.ex
  subst e
  have T := oexB_ok hx
  refine ⟨T, hm, fI, _, _, hi, ht, ?_, hB⟩
  have e2 : (PySem.W.fnOf "__init__" q (defArgs st) (defBody st) (defScope st) dV kV doc pm an cdv ct) = PySem.W.fnOf "__init__" q (defArgs st) [.Assign [.Attribute (.Name s1 p1) (nm.fld f) p2] (.Name x1 p3) p4] (defScope st) dV kV doc pm an cdv ct := by rw [hb]
  rw [e2] at lk ⊢
  exact oinit (k := 0) T hno lk hcd S hv1 hv2 d1 d2 d3 d4 hs
theorem lamC_of {K : Frg} {x q q' : Str} {params : Arguments} {body : List Stmt} {scope : Scope} {dvs : List V} {kws : List (Str × V)} {p : Str × Option Str} {fd : FuncData} {base : Heap} {mg : Str → Option Value} {nm : Nm} (F : FunD K x q params body scope dvs kws (fAd K p) fd) (T : LamX.TabB base mg (cT K p).1 (cT K p).2)
    (hm : ((cT K p).2, q') ∈ nm.T) (hu : ∀ z ∈ nm.T, z.1 = (cT K p).2 → z.2 = q') : ∃ c T, fd.code = .ref c ∧ LamC base mg nm q' c T := by
  obtain ⟨oc, od, dV, kV, doc, pm, an, cdv, ct, osl, e, lk, hcd, _, _⟩ := F.ex
  obtain ⟨c, hc⟩ := codeIn_ref hcd
  have e1 : fd.code = .ref c := by rw [e, ← hc]
  have e2 := codeOf_eq lk e1
  refine ⟨(cT K p).1, (cT K p).2, ?_, T, hm, hu⟩
  show fd.code = .ref (codeOf K p)
  rw [e2, e1]
end PM

namespace PM
open PySem PySem.Spec PyProof.Rows L2 He
/-- the heap without its tables -/
def noTab (H : Hp) : Hp := fun b => match H b with
  | some (.tbl _) => none
  | o => o
theorem noTab_same {H : Hp} : Same (noTab H) H := fun b o e => by
  unfold noTab at e
  split at e
  · cases e
  · exact e
theorem noTab_of {H : Hp} {b : Addr} {o : HO} (e : H b = some o) (h : ∀ ps, o ≠ .tbl ps) : noTab H b = some o := by
  unfold noTab
  rw [e]
  split
  · rename_i q; cases q; exact absurd rfl (h _)
  · rfl
theorem noTab_sql {K : Frg} {H : Hp} {a : Addr} {xs : List V} (h : SqL K H a xs) : SqL K (noTab H) a xs := by
  rcases h with h | h
  · rcases h with h | ⟨o, h⟩
    · exact .inl (.inl (noTab_of h (by intro ps z; cases z)))
    · exact .inl (.inr ⟨o, noTab_of h (by intro ps z; cases z)⟩)
  · exact .inr h
theorem spD_start {nm : Nm} {K : Frg} {g : CF} {H : Hp} {a : Addr} {ns : List Int} (hT : ∀ p ∈ nm.T, H p.1 = some (.tbl #[])) (hS : SqL K H a (ns.map V.int)) (hg : ∃ M', g [.scr ns] [] = .ok (.bl true) M') :
    spD nm K 1 g [.ref a] H (fun v _ => v = .bl true) (fun _ _ _ => False) := by
  obtain ⟨M', hg⟩ := hg
  refine ⟨rfl, [], noTab H, [], [.scr ns], ⟨noTab_same, rfl, List.nodup_nil, fun a h => (by cases h), fun i m a h => (by cases h), fun b ps e => ?_, fun p hp => ?_, fun p hp => ⟨?_, (by simp)⟩⟩, .cons (.scr (noTab_sql hS)) .nil, ?_⟩
  · unfold noTab at e
    split at e
    · cases e
    · rename_i h; exact h _ e
  · exact ⟨_, hT p hp, trivial, fun pos cv hc => (by cases hc)⟩
  · unfold noTab
    rw [hT p hp]
  · rw [hg]
    intro v H' G' ρ' kp wf r
    cases r
    rfl
end PM

namespace PM
open PySem PySem.Spec PyProof.Rows L2
/-! ### an int in a table of the module with int keys -/
section
variable {X : Cx} {nm : Nm} {W : WX} {pos : Pos} {a b c o : Expr} {fa : EF} {d : Addr} {kvs : List (Int × Int)}
theorem op_in_kdI (T : TbI X.K d kvs) : OpR X (compareOp .In) (fun x y H Q => ∃ i, x = .int i ∧ y = .ref d ∧ Q (.bl (kvs.lookup i).isSome) H) := by
  intro pins s σ H x y v u Q I rx ry h
  obtain ⟨i, rfl, rfl, q⟩ := h
  obtain ⟨t, rfl⟩ := rx
  cases ry
  obtain ⟨f, hm, hf⟩ := tbI_map I T
  refine wpAny_in_of (by show Value.isInt i (.int i t) = true; simp [Value.isInt]) T.low hm ?_
  have e : (f i).isSome = (kvs.lookup i).isSome := by
    cases q2 : kvs.lookup i with
    | none => rw [(hf i).2 q2]; rfl
    | some v => obtain ⟨t', ht⟩ := (hf i).1 v q2; rw [ht]; rfl
  rw [e]
  exact ⟨.bl _, H, I.tok _, rfl, q⟩
theorem op_nin_kdI (T : TbI X.K d kvs) : OpR X (compareOp .NotIn) (fun x y H Q => ∃ i, x = .int i ∧ y = .ref d ∧ Q (.bl (!(kvs.lookup i).isSome)) H) := by
  intro pins s σ H x y v u Q I rx ry h
  obtain ⟨i, rfl, rfl, q⟩ := h
  obtain ⟨t, rfl⟩ := rx
  cases ry
  obtain ⟨f, hm, hf⟩ := tbI_map I T
  refine wpAny_notIn_of (by show Value.isInt i (.int i t) = true; simp [Value.isInt]) T.low hm ?_
  have e : (f i).isSome = (kvs.lookup i).isSome := by
    cases q2 : kvs.lookup i with
    | none => rw [(hf i).2 q2]; rfl
    | some v => obtain ⟨t', ht⟩ := (hf i).1 v q2; rw [ht]; rfl
  rw [e]
  exact ⟨.bl _, H, I.tok _, rfl, q⟩
def eII (neg : Bool) (tb : List (Int × Int)) (a : EF) : EF := fun e M => (a e M).bind fun d e M => match d with | .int z => .ok (.bl (if neg then !(tb.lookup z).isSome else (tb.lookup z).isSome)) e M | _ => .bad
theorem sE_inI {x : Str} {p : Pos} (ha : PE X a (tE nm X.K W fa)) (hg : Gl X x) (hm : X.mg x = some (.ref d)) (hdb : (x == ("__debug__" : Str)) = false) (T : TbI X.K d kvs) (hmk : behindInMarks .In (.Name x p) = false) : PE X (.Compare a [.In] [.Name x p] pos) (tE nm X.K W (eII false kvs fa)) := by
  refine (pe_cmpR (op_in_kdI T) ha (pe_glob hg hm (show RelV (.ref d) (.ref d) from rfl) hdb) hmk).imp fun σ H Q ⟨fr, ρ, G, e, M, s, h⟩ => ?_
  refine tE.bind gdE_mono s h fun ρ1 G1 e1 M1 x v H1 g1 p1 s1 r1 h1 => ?_
  cases r1 with
  | int z => exact ⟨z, rfl, rfl, h1 _ H1 G1 ρ1 (Same.refl _) (Pre.refl _) s1 (.bl _)⟩
  | _ => exact h1.elim
theorem sE_ninI {x : Str} {p : Pos} (ha : PE X a (tE nm X.K W fa)) (hg : Gl X x) (hm : X.mg x = some (.ref d)) (hdb : (x == ("__debug__" : Str)) = false) (T : TbI X.K d kvs) (hmk : behindInMarks .NotIn (.Name x p) = false) : PE X (.Compare a [.NotIn] [.Name x p] pos) (tE nm X.K W (eII true kvs fa)) := by
  refine (pe_cmpR (op_nin_kdI T) ha (pe_glob hg hm (show RelV (.ref d) (.ref d) from rfl) hdb) hmk).imp fun σ H Q ⟨fr, ρ, G, e, M, s, h⟩ => ?_
  refine tE.bind gdE_mono s h fun ρ1 G1 e1 M1 x v H1 g1 p1 s1 r1 h1 => ?_
  cases r1 with
  | int z => exact ⟨z, rfl, rfl, h1 _ H1 G1 ρ1 (Same.refl _) (Pre.refl _) s1 (.bl _)⟩
  | _ => exact h1.elim
end
end PM

namespace PM
open PySem PySem.Spec PyProof.Rows L2
/-! ### {i: j, ..}[e], ints written out -/
theorem pairs_int {W : Nat} : ∀ (kvs : List (Int × Int)) (σ : L2.St) (H : Hp) (Q : List (V × V) → Hp → Prop), Q (kvs.map fun p => (V.int p.1, V.int p.2)) H → tPairs (kvs.map fun p => (tC (.int p.1), tC (.int p.2))) σ H Q
  | [], σ, H, Q, h => h
  | p :: r, σ, H, Q, h => pairs_int (W := W) r σ H (fun ps H' => Q ((.int p.1, .int p.2) :: ps) H') h
def kvI (kvs : List (Int × Int)) : List (L2.Key × V) := kvs.map fun p => (Sum.inl p.1, V.int p.2)
theorem valI {kvs : List (Int × Int)} {i v : Int} (h : kvs.lookup i = some v) : valV (kvI kvs) (Sum.inl i : L2.Key) = some (.int v) := by
  induction kvs with
  | nil => cases h
  | cons p r ih =>
    obtain ⟨a, b⟩ := p
    by_cases e : i = a
    · subst e
      have : v = b := by simpa using h.symm
      subst this
      exact valV_pos rfl
    · have h' : r.lookup i = some v := by
        have q : (i == a) = false := by simpa using e
        simpa [List.lookup, q] using h
      show valV ((Sum.inl a, V.int b) :: kvI r) _ = _
      rw [valV_neg (by intro z; exact e (Sum.inl.inj z).symm)]
      exact ih h'
def eDi (kvs : List (Int × Int)) (b : EF) : EF := fun e M => (b e M).bind fun d e M => match d with | .int z => lift ((kvs.lookup z).map .int) e M | _ => .bad
section
variable {gd : Bool} {X : Cx} {nm : Nm} {W : WX} {k : Nat} {pos p2 : Pos} {a b c : Expr} {es : List Expr} {fa fb : EF} {ga gb : AF} {keys : List (Option Expr)} {values : List Expr}
theorem wDi (cc : Cc gd X W k) (kvs : List (Int × Int)) (hp : PPs X p2 keys values (kvs.map fun p => (tC (.int p.1), tC (.int p.2)))) (hb : PE X b (tE nm X.K W fb)) (hn : mergeK [] (kvI kvs) = kvI kvs := by rfl) (h15 : kvs.length ≤ 15 := by decide)
    (hall : keys.all (·.isSome) = true := by rfl) (hl : keys.length = values.length := by rfl) (h0 : keys ≠ [] := by simp) (hk15 : keys.length ≤ 15 := by simp) (hs : PlainIx b := by intro _ _; rfl) :
    PE X (.Subscript (.Dict keys values p2) b pos) (tE nm X.K W (eDi kvs fb)) := by
  refine (pe_ix (ix_dic cc.gx.hu) (pe_disp hp hall hl h0 hk15) hb hs).imp fun σ H Q ⟨fr, ρ, G, e, M, s, h⟩ p hp => ?_
  refine pairs_int (W := 0) kvs σ _ _ ⟨upd_same, kvI kvs, ?_, by unfold kvI; rw [List.length_map]; exact h15, ?_⟩
  · unfold kvI; rw [List.map_map]; rfl
  rw [hn, upd_upd]
  have s1 := s.alloc hp (.dK (kvI kvs))
  refine tE.bind gdE_mono s1 (pG.mono gdE_mono (Same.upd (s.wf.none_of hp)) (Pre.refl _) h) fun ρ1 G1 e1 M1 d v H1 g1 p1 s2 r1 h1 => ?_
  cases r1 with
  | int z =>
    simp only at h1
    cases q : kvs.lookup z with
    | none => rw [q] at h1; exact h1.elim
    | some j =>
      rw [q] at h1
      have e1 : H1 p = some (.dK (kvI kvs)) := s2.wf.sub _ _ (g1 _ _ upd_same)
      exact ⟨p, .int j, rfl, .inl ⟨kvI kvs, Sum.inl z, .inl e1, rfl, (valI q).symm⟩, h1 _ H1 G1 ρ1 (Same.refl _) (Pre.refl _) s2 (.int _)⟩
  | _ => exact h1.elim
/-! ### keywords -/
def permL {α : Type} (ix : List Nat) (l : List α) : List α := ix.filterMap fun i => l[i]?
theorem permL_rps {K : Frg} {ρ : List Addr} {G : Hp} {ds : List D} {vs : List V} (r : Rps K ρ G ds vs) : ∀ ix : List Nat, Rps K ρ G (permL ix ds) (permL ix vs)
  | [] => .nil
  | i :: ix => by
    unfold permL
    cases q : ds[i]? with
    | some d =>
      obtain ⟨v, hv, rv⟩ := r.get q
      rw [List.filterMap_cons_some q, List.filterMap_cons_some hv]
      exact .cons rv (permL_rps r ix)
    | none =>
      have hv : vs[i]? = none := by
        rw [List.getElem?_eq_none_iff] at q ⊢
        rw [← r.length]; exact q
      rw [List.filterMap_cons_none q, List.filterMap_cons_none hv]
      exact permL_rps r ix
theorem permL_vals {vs : List V} {us : List Value} (r : Vals vs us) : ∀ ix : List Nat, Vals (permL ix vs) (permL ix us)
  | [] => .nil
  | i :: ix => by
    unfold permL
    have hl := r.length
    by_cases q : i < vs.length
    · have h1 : vs[i]? = some vs[i] := List.getElem?_eq_getElem q
      have h2 : us[i]? = some us[i] := List.getElem?_eq_getElem (by omega)
      have rv : L2.RelV vs[i] us[i] := by
        have : ∀ {vs : List V} {us : List Value} (_ : Vals vs us) (i : Nat) (v : V) (u : Value), vs[i]? = some v → us[i]? = some u → L2.RelV v u := by
          intro vs us r
          induction r with
          | nil => intro i v u h; simp at h
          | cons h _ ih =>
            intro i v u h1 h2
            cases i with
            | zero => simp at h1 h2; subst h1 h2; exact h
            | succ i => exact ih i v u (by simpa using h1) (by simpa using h2)
        exact this r i _ _ h1 h2
      rw [List.filterMap_cons_some h1, List.filterMap_cons_some h2]
      exact .cons rv (permL_vals r ix)
    · have h1 : vs[i]? = none := List.getElem?_eq_none (by omega)
      have h2 : us[i]? = none := List.getElem?_eq_none (by omega)
      rw [List.filterMap_cons_none h1, List.filterMap_cons_none h2]
      exact permL_vals r ix
theorem vals_app : ∀ {vs : List V} {us : List Value} {zs : List V} {ws : List Value}, Vals vs us → Vals zs ws → Vals (vs ++ zs) (us ++ ws)
  | _, _, _, _, .nil, s => s
  | _, _, _, _, .cons a b, s => .cons a (vals_app b s)
/-- how a call with n positional values and keywords ks binds -/
structure KwB (K : Frg) (fd : FuncData) (ps : List Str) (n : Nat) (ks : List Str) (ix : List Nat) : Prop where
  to : ∀ (s : Shared) (us ws : List Value), K.In s.heap → us.length = n → ws.length = ks.length → BindsTo s fd ⟨us, ks.zip ws⟩ (ps.zip (us ++ permL ix ws))
theorem KwB.of {K : Frg} {x qual : Str} {params : Arguments} {body : List Stmt} {scope : Scope} {f : Addr} {fd : FuncData} {ps : List Str} {n : Nat} {ks : List Str} {ix : List Nat} (F : FunD K x qual params body scope [] [] f fd)
    (h : ∀ (kV doc pm : Value) (an : Option Addr) (cdv ct : Value) (us ws : List Value), us.length = n → ws.length = ks.length → bindArgs (PySem.W.fnOf x qual params body scope .none kV doc pm an cdv ct) ⟨us, ks.zip ws⟩ = pure (ps.zip (us ++ permL ix ws))) : KwB K fd ps n ks ix := by
  obtain ⟨oc, od, dV, kV, doc, pm, an, cdv, ct, osl, rfl, lk, hcd, hD, hK⟩ := F.ex
  rcases hD with ⟨_, rfl⟩ | ⟨e, _⟩
  · exact ⟨fun s us ws _ l1 l2 => .of_eq (h kV doc pm an cdv ct us ws l1 l2)⟩
  · exact absurd rfl e
theorem wKN : PK X [] (tA nm X.K W aN) := by
  refine ⟨fun pos pins s σ H Q I ⟨fr, ρ, G, e, M, r, h⟩ => pk_nil.run pos pins s σ H Q I (h [] H G ρ (Same.refl _) (Pre.refl _) r .nil)⟩
theorem wKC {x : Option Str} {kpos : Pos} {kws : List Keyword} (ha : PE X a (tE nm X.K W fa)) (hr : PK X kws (tA nm X.K W ga)) : PK X (⟨x, a, kpos⟩ :: kws) (tA nm X.K W (aC fa ga)) := by
  refine ⟨fun pos pins s σ H Q I ⟨fr, ρ, G, e, M, r, h⟩ => (pk_cons ha hr).run pos pins s σ H Q I ?_⟩
  refine tE.bind gdA_mono r h fun ρ1 G1 e1 M1 d1 v1 H1 g1 p1 s1 r1 h1 => ?_
  refine tA.bind gdA_mono s1 h1 fun ρ2 G2 e2 M2 ds vs H2 g2 p2 s2 r2 h2 => ?_
  exact h2 _ H2 G2 ρ2 (Same.refl _) (Pre.refl _) s2 (.cons (r1.mono g2 p2) r2)
theorem call_finK {k n c : Nat} {f : Addr} {fd : FuncData} {ps ks : List Str} {ix : List Nat} {g : List D → List MO → CO} (F : FnG gd X.prog X.w X.K X.mg X.base k f fd ps (spD nm X.K n g)) (hr : Room k X.A) (hgd : gd = true → X.A.guards = some []) (tk : Takes X W) (hb : KwB X.K fd ps c ks ix)
    (hgn : ∀ ds M, ds.length ≠ n → g ds M = .bad) {pins : List (Addr × Obj)} {fr : Fr} {us ws : List Value} {vs zs : List V} {ρ1 : List Addr} {G1 H1 : Hp} {e1 : Ev} {M1 : List MO} {ds es : List D} {s1 : Shared} {σ : L2.St} {Q : VK}
    (I1 : Inv X pins σ H1 s1) (rv : Vals vs us) (rw : Vals zs ws) (s2 : SR nm X.K fr ρ1 G1 e1 M1 σ H1) (rs : Rps X.K ρ1 G1 ds vs) (rz : Rps X.K ρ1 G1 es zs) (l1 : ds.length = c) (l2 : es.length = ks.length)
    (h1 : pG nm X.K fr W (gdE nm X.K fr σ Q) ρ1 G1 ((g (ds ++ permL ix es) M1).out e1)) : wpAny (model X.prog X.w) X.A (call (.ref f) us (ks.zip ws)) (EP X pins σ Q) X.xe s1 := by
  have rr := rs.append (permL_rps rz ix)
  have hn : (ds ++ permL ix es).length = n := Classical.byContradiction fun z => by rw [hgn _ M1 z] at h1; exact h1
  have sp : spD nm X.K n g (vs ++ permL ix zs) H1 Q (fun cls d H' => W cls d σ H') := by
    refine ⟨by rw [← rr.length]; exact hn, ρ1, G1, M1, _, s2.wf, rr, ?_⟩
    cases q : g (ds ++ permL ix es) M1 with
    | bad => rw [q] at h1; exact h1
    | ok d M2 =>
      rw [q] at h1
      exact fun v H' G' ρ' kp wf rd => h1 v H' G' ρ' (kp.grows s2.wf.sub) kp.pre (s2.step kp wf) rd
    | err c fv M2 =>
      rw [q] at h1
      exact fun H' G' ρ' dx kp wf er => h1 σ H' G' ρ' dx (kp.grows s2.wf.sub) kp.pre (s2.step kp wf) er
  have bd := hb.to s1 us ws I1.kIn (by rw [← rv.length, ← rs.length]; exact l1) (by rw [← rw.length, ← rz.length]; exact l2)
  exact callG F hr hgd tk I1 bd (vals_app rv (permL_vals rw ix)) sp (fun _ _ _ h => h)
/-- a def of the module, its binding by keywords -/
structure DfK (gd : Bool) (P : Program) (w : World) (K : Frg) (mg : Str → Option Value) (base : Heap) (nm : Nm) (x : Str) (k n : Nat) (g : CF) (c : Nat) (ks : List Str) (ix : List Nat) : Prop where
  ex : ∃ f fd ps, FnG gd P w K mg base k f fd ps (spD nm K n g) ∧ KwB K fd ps c ks ix ∧ mg x = some (.ref f) ∧ PySem.W.keepIn K (.ref f) = true
  gn : ∀ ds M, ds.length ≠ n → g ds M = .bad
structure DmK (gd : Bool) (P : Program) (w : World) (K : Frg) (mg : Str → Option Value) (base : Heap) (nm : Nm) (cn : Nat) (m : Str) (k n : Nat) (g : CF) (c : Nat) (ks : List Str) (ix : List Nat) : Prop where
  ex : ∃ f fd ps, FnG gd P w K mg base k f fd ps (spD nm K n g) ∧ KwB K fd ps (c + 1) ks ix ∧ Meth K (nm.cls cn) m f
  gn : ∀ ds M, ds.length ≠ n → g ds M = .bad
def eCaK (c m : Nat) (ix : List Nat) (g : CF) (as bs : AF) : EF := fun e M => (as e M).bind fun ds e M => (bs e M).bind fun es e M => if ds.length = c ∧ es.length = m then (g (ds ++ permL ix es) M).out e else .bad
def eMcK (c m : Nat) (ix : List Nat) (cn : Nat) (g : CF) (o : EF) (as bs : AF) : EF := fun e M => (o e M).bind fun x e M => if rcvD cn x M then (as e M).bind fun ds e M => (bs e M).bind fun es e M => if ds.length = c ∧ es.length = m then (g (x :: (ds ++ permL ix es)) M).out e else .bad else .bad
def eMkK (c m : Nat) (ix : List Nat) (g : CF) (cn : Nat) (as bs : AF) : EF := fun e M => (as e M).bind fun ds e M => (bs e M).bind fun es e M => if ds.length = c ∧ es.length = m then mkF g cn (ds ++ permL ix es) e M else .bad
/-- f(k = v, ..) -/
theorem wCaK0 (cc : Cc gd X W k) {x : Str} {p : Pos} {j n : Nat} {g : CF} {ks : List Str} {ix : List Nat} {kws : List Keyword} (F : DfK gd X.prog X.w X.K X.mg X.base nm x j n g 0 ks ix) (hx : PK X kws (tA nm X.K W ga)) (hj : j ≤ k := by decide) (hg : Gl X x := by rfl) (hdb : (x == ("__debug__" : Str)) = false := by decide)
    (hall : (backToKw pos (keywordEach kws X.env)).all (·.1.isSome) = true := by rfl) (hks : (backToKw pos (keywordEach kws X.env)).filterMap (·.1) = ks := by rfl)
    (hpl : ((backTo pos (starEach [] X.env)).any (·.1) || (backToKw pos (keywordEach kws X.env)).any (·.1.isNone)) = false := by rfl) : PE X (.Call (.Name x p) [] kws pos) (tE nm X.K W (eCaK 0 ks.length ix g aN ga)) := by
  obtain ⟨f, fd, ps, F1, hb, hm, hk⟩ := F.ex
  refine ⟨fun pins s σ H Q I ⟨fr, ρ, G, e, M, r, h⟩ => ?_⟩
  have h : pG nm X.K fr W (gdE nm X.K fr σ Q) ρ G ((ga e M).bind fun es e M => if ([] : List D).length = 0 ∧ es.length = ks.length then (g ([] ++ permL ix es) M).out e else .bad) := h
  refine wpAny_Call_Name_kw (ld_glob I hg hm ?_ hdb)
  refine PySem.W.callWith_KW0 (h₀ := X.base) I.ok.mod.kin hk hall (thn (hx.run pos pins s σ H (fun vs H1 => ∃ ρ1 G1 e1 M1 ds, SR nm X.K fr ρ1 G1 e1 M1 σ H1 ∧ Rps X.K ρ1 G1 ds vs ∧ pG nm X.K fr W (gdE nm X.K fr σ Q) ρ1 G1 (if ([] : List D).length = 0 ∧ ds.length = ks.length then (g ([] ++ permL ix ds) M1).out e1 else .bad)) I
    (tA.bind gdE_mono r h fun ρ1 G1 e1 M1 ds vs H1 g1 p1 s2 r1 h1 => ⟨ρ1, G1, e1, M1, ds, s2, r1, h1⟩)) fun ws s1 ⟨zs, H1, I1, rv, ρ1, G1, e1, M1, ds, s2, r1, h1⟩ => ⟨I1.kIn, ?_⟩) hpl
  rw [hks]
  split at h1
  · rename_i hc
    exact call_finK (us := []) (vs := []) (ds := []) F1 (cc.hr.mono hj) cc.hg cc.tk hb F.gn I1 .nil rv s2 .nil r1 rfl hc.2 h1
  · exact h1.elim
/-- f(e, .., k = v, ..) -/
theorem wCaK (cc : Cc gd X W k) {x : Str} {p : Pos} {j n c : Nat} {g : CF} {ks : List Str} {ix : List Nat} {kws : List Keyword} (F : DfK gd X.prog X.w X.K X.mg X.base nm x j n g c ks ix) (ha : PA X (a :: es) (tA nm X.K W ga)) (hx : PK X kws (tA nm X.K W gb)) (hj : j ≤ k := by decide) (hg : Gl X x := by rfl) (hdb : (x == ("__debug__" : Str)) = false := by decide)
    (hall : (backToKw pos (keywordEach kws X.env)).all (·.1.isSome) = true := by rfl) (hks : (backToKw pos (keywordEach kws X.env)).filterMap (·.1) = ks := by rfl) (he : starEach (a :: es) X.env = (false, eval a X.env) :: starEach es X.env := by rfl)
    (hpl : ((backTo pos (starEach (a :: es) X.env)).any (·.1) || (backToKw pos (keywordEach kws X.env)).any (·.1.isNone)) = false := by rfl) : PE X (.Call (.Name x p) (a :: es) kws pos) (tE nm X.K W (eCaK c ks.length ix g ga gb)) := by
  obtain ⟨f, fd, ps, F1, hb, hm, hk⟩ := F.ex
  refine ⟨fun pins s σ H Q I ⟨fr, ρ, G, e, M, r, h⟩ => ?_⟩
  refine wpAny_Call_Name_kw (ld_glob I hg hm ?_ hdb)
  refine PySem.W.callWith_KW (h₀ := X.base) I.ok.mod.kin hk hall (thn (ha.run pos pins s σ H (fun vs H1 => ∃ ρ1 G1 e1 M1 ds, SR nm X.K fr ρ1 G1 e1 M1 σ H1 ∧ Rps X.K ρ1 G1 ds vs ∧ pG nm X.K fr W (gdE nm X.K fr σ Q) ρ1 G1 ((gb e1 M1).bind fun es e M => if ds.length = c ∧ es.length = ks.length then (g (ds ++ permL ix es) M).out e else .bad)) I
    (tA.bind gdE_mono r h fun ρ1 G1 e1 M1 ds vs H1 g1 p1 s2 r1 h1 => ⟨ρ1, G1, e1, M1, ds, s2, r1, h1⟩)) fun us s1 ⟨vs, H1, I1, rv, ρ1, G1, e1, M1, ds, s2, r1, h1⟩ => ?_) hpl he
  refine thn (hx.run pos pins s1 σ H1 (fun zs H2 => ∃ ρ2 G2 e2 M2 es, SR nm X.K fr ρ2 G2 e2 M2 σ H2 ∧ Rps X.K ρ2 G2 ds vs ∧ Rps X.K ρ2 G2 es zs ∧ pG nm X.K fr W (gdE nm X.K fr σ Q) ρ2 G2 (if ds.length = c ∧ es.length = ks.length then (g (ds ++ permL ix es) M2).out e2 else .bad)) I1
    (tA.bind gdE_mono s2 h1 fun ρ2 G2 e2 M2 es zs H2 g2 p2 s3 r2 h2 => ⟨ρ2, G2, e2, M2, es, s3, r1.mono g2 p2, r2, h2⟩)) fun ws s3 ⟨zs, H2, I2, rw', ρ2, G2, e2, M2, es, s4, r3, r4, h2⟩ => ⟨I2.kIn, ?_⟩
  rw [hks]
  split at h2
  · rename_i hc
    exact call_finK F1 (cc.hr.mono hj) cc.hg cc.tk hb F.gn I2 rv rw' s4 r3 r4 hc.1 hc.2 h2
  · exact h2.elim
/-- o.m(k = v, ..) -/
theorem wMcK0 (cc : Cc gd X W k) {o : Expr} {fo : EF} {cn j n : Nat} {m : Str} {g : CF} {ks : List Str} {ix : List Nat} {kws : List Keyword} {pl : Sem Bool} {apos : Pos} (F : DmK gd X.prog X.w X.K X.mg X.base nm cn m j n g 0 ks ix) (hcl : Cls X.K (nm.cls cn)) (hmf : ∀ f, nm.fld f ≠ m) (ho : PE X o (tE nm X.K W fo)) (hx : PK X kws (tA nm X.K W ga)) (hj : j ≤ k := by decide)
    (hall : (backToKw pos (keywordEach kws X.env)).all (·.1.isSome) = true := by rfl) (hks : (backToKw pos (keywordEach kws X.env)).filterMap (·.1) = ks := by rfl)
    (hpl : ((backTo pos (starEach [] X.env)).any (·.1) || (backToKw pos (keywordEach kws X.env)).any (·.1.isNone)) = false := by rfl)
    (ht : eval (.Call (.Attribute o m apos) [] kws pos) X.env = (do
      let ov ← eval o X.env
      standAt apos.atName
      let (f, first) ← holding [ov] (getMethod ov m pl)
      callWith pos f first (backTo pos (starEach [] X.env)) (backToKw pos (keywordEach kws X.env))) := by rfl) : PE X (.Call (.Attribute o m apos) [] kws pos) (tE nm X.K W (eMcK 0 ks.length ix cn g fo aN ga)) := by
  obtain ⟨f, fd, ps, F1, hb, hm⟩ := F.ex
  refine ⟨fun pins s σ H Q I ⟨fr, ρ, G, e, M, r, h⟩ => ?_⟩
  have h : pG nm X.K fr W (gdE nm X.K fr σ Q) ρ G ((fo e M).bind fun x e M => if rcvD cn x M then (ga e M).bind fun es e M => if ([] : List D).length = 0 ∧ es.length = ks.length then (g ([x] ++ permL ix es) M).out e else .bad else .bad) := h
  refine PySem.W.methodCall_KW (pl := pl) (thn (ho.run pins s σ H (fun v H1 => ∃ ρ1 G1 e1 M1 x, SR nm X.K fr ρ1 G1 e1 M1 σ H1 ∧ Rp X.K ρ1 G1 x v ∧ pG nm X.K fr W (gdE nm X.K fr σ Q) ρ1 G1 (if rcvD cn x M1 then (ga e1 M1).bind fun es e M => if ([] : List D).length = 0 ∧ es.length = ks.length then (g ([x] ++ permL ix es) M).out e else .bad else .bad)) I
    (tE.bind gdE_mono r h fun ρ1 G1 e1 M1 x v H1 g1 p1 s1 r1 h1 => ⟨ρ1, G1, e1, M1, x, s1, r1, h1⟩)) fun u s1 ⟨v, H1, I1, ru, ρ1, G1, e1, M1, x, s2, rx, h1⟩ => ?_) ht
  split at h1
  · rename_i hrc
    obtain ⟨p, dx, q, rfl, k1, k2⟩ := rcvD_spec s2.wf rx hrc hmf
    obtain rfl : u = Value.ref p := ru
    refine getmeth_ok I1 k1 hcl hm k2 ?_
    refine PySem.W.callWith_KW0 (first := [.ref p]) (h₀ := X.base) I.ok.mod.kin hm.kp hall (thn (hx.run pos pins s1 σ H1 (fun vs H2 => ∃ ρ2 G2 e2 M2 ds, SR nm X.K fr ρ2 G2 e2 M2 σ H2 ∧ Rp X.K ρ2 G2 x (.ref p) ∧ Rps X.K ρ2 G2 ds vs ∧ pG nm X.K fr W (gdE nm X.K fr σ Q) ρ2 G2 (if ([] : List D).length = 0 ∧ ds.length = ks.length then (g ([x] ++ permL ix ds) M2).out e2 else .bad)) I1
      (tA.bind gdE_mono s2 h1 fun ρ2 G2 e2 M2 ds vs H2 g2 p2 s3 r2 h2 => ⟨ρ2, G2, e2, M2, ds, s3, rx.mono g2 p2, r2, h2⟩)) fun ws s3 ⟨zs, H2, I2, rv, ρ2, G2, e2, M2, ds, s4, rx2, r2, h2⟩ => ⟨I2.kIn, ?_⟩) hpl
    rw [hks]
    split at h2
    · rename_i hc
      exact call_finK (us := [.ref p]) (vs := [.ref p]) F1 (cc.hr.mono hj) cc.hg cc.tk hb F.gn I2 (.cons rfl .nil) rv s4 (.cons rx2 .nil) r2 rfl hc.2 h2
    · exact h2.elim
  · exact h1.elim
end
end PM

namespace PM
open PySem PySem.Spec PyProof.Rows L2
/-! ### C(k = v, ..) -/
section
variable {gd : Bool} {X : Cx} {nm : Nm} {W : WX} {k : Nat} {pos : Pos} {a b c : Expr} {es : List Expr} {fa fb : EF} {ga gb : AF}
theorem make_finK {cn k n c : Nat} {f : Addr} {fd : FuncData} {ps ks : List Str} {ix : List Nat} {g : List D → List MO → CO} (Mc : Mk X.K (nm.cls cn) f) (F : FnG false X.prog X.w X.K X.mg X.base k f fd ps (spD nm X.K n g)) (hr : Room (k + 1) X.A) (tk : Takes X W) (hb : KwB X.K fd ps (c + 1) ks ix)
    (hgn : ∀ ds M, ds.length ≠ n → g ds M = .bad) {pins : List (Addr × Obj)} {fr : Fr} {us ws : List Value} {vs zs : List V} {ρ1 : List Addr} {G1 H1 : Hp} {e1 : Ev} {M1 : List MO} {ds es : List D} {s1 : Shared} {σ : L2.St} {Q : VK}
    (I1 : Inv X pins σ H1 s1) (rv : Vals vs us) (rw' : Vals zs ws) (s2 : SR nm X.K fr ρ1 G1 e1 M1 σ H1) (rs : Rps X.K ρ1 G1 ds vs) (rz : Rps X.K ρ1 G1 es zs) (l1 : ds.length = c) (l2 : es.length = ks.length)
    (h1 : pG nm X.K fr W (gdE nm X.K fr σ Q) ρ1 G1 (mkF g cn (ds ++ permL ix es) e1 M1)) : wpAny (model X.prog X.w) X.A (call (.ref (nm.cls cn)) us (ks.zip ws)) (EP X pins σ Q) X.xe s1 := by
  have nD : H1 s1.heap.objs.size = none := I1.hok.fresh (Nat.le_refl _)
  have nX : upd H1 s1.heap.objs.size (.own (s1.heap.objs.size + 1)) (s1.heap.objs.size + 1) = none := by
    rw [upd_ne (Nat.ne_of_gt (Nat.lt_succ_self _))]
    exact I1.hok.fresh (Nat.le_succ _)
  have s3 := s2.alloc nD (.own (s1.heap.objs.size + 1))
  have w4 : Wf nm X.K (ρ1 ++ [s1.heap.objs.size + 1]) (upd G1 s1.heap.objs.size (.own (s1.heap.objs.size + 1))) (M1 ++ [.ins cn []]) (upd (upd H1 s1.heap.objs.size (.own (s1.heap.objs.size + 1))) (s1.heap.objs.size + 1) (.ins (nm.cls cn) s1.heap.objs.size [])) :=
    s3.wf.allocO nX ⟨s1.heap.objs.size, [], upd_same, .nil⟩ (fun _ z => by cases z)
  have s4 := s3.step (Kp.allocM s3.wf nX _) w4
  have gs : Same G1 (upd G1 s1.heap.objs.size (.own (s1.heap.objs.size + 1))) := Same.upd (s2.wf.none_of nD)
  have rx : Rp X.K (ρ1 ++ [s1.heap.objs.size + 1]) (upd G1 s1.heap.objs.size (.own (s1.heap.objs.size + 1))) (.ref M1.length) (.ref (s1.heap.objs.size + 1)) :=
    .ref (by rw [← s2.wf.len, List.getElem?_append_right (Nat.le_refl _)]; simp)
  have rs' := (rs.append (permL_rps rz ix)).mono gs (Pre.push ρ1 (s1.heap.objs.size + 1))
  have hn : (D.ref M1.length :: (ds ++ permL ix es)).length = n := Classical.byContradiction fun z => by
    unfold mkF at h1
    rw [hgn _ _ z] at h1
    exact h1
  have hvl : (V.ref (s1.heap.objs.size + 1) :: (vs ++ permL ix zs)).length = n := by
    rw [← hn, List.length_cons, List.length_cons, (rs.append (permL_rps rz ix)).length]
  have sp : spD nm X.K n g (V.ref (s1.heap.objs.size + 1) :: (vs ++ permL ix zs)) (upd (upd H1 s1.heap.objs.size (.own (s1.heap.objs.size + 1))) (s1.heap.objs.size + 1) (.ins (nm.cls cn) s1.heap.objs.size []))
      (fun v H2 => v = .non ∧ Q (.ref (s1.heap.objs.size + 1)) H2) (fun cls d H' => W cls d σ H') := by
    refine ⟨hvl, _, _, _, _, w4, .cons rx rs', ?_⟩
    unfold mkF at h1
    cases q : g (.ref M1.length :: (ds ++ permL ix es)) (M1 ++ [.ins cn []]) with
    | bad => rw [q] at h1; exact h1
    | ok d M2 =>
      rw [q] at h1
      intro v H' G' ρ' kp wf rd
      cases d with
      | non =>
        cases rd
        exact ⟨rfl, h1 _ H' G' ρ' (gs.trans (kp.grows w4.sub)) ((Pre.push _ _).trans kp.pre) (s4.step kp wf) (.ref (kp.pre _ _ (by rw [← s2.wf.len, List.getElem?_append_right (Nat.le_refl _)]; simp)))⟩
      | _ => exact h1.elim
    | err c fv M2 =>
      rw [q] at h1
      exact fun H' G' ρ' dx kp wf er => h1 σ H' G' ρ' dx (gs.trans (kp.grows w4.sub)) ((Pre.push _ _).trans kp.pre) (s4.step kp wf) er
  have I2 := Inv.made (C := nm.cls cn) I1
  have r2 : Vals (V.ref (s1.heap.objs.size + 1) :: (vs ++ permL ix zs)) (Value.ref (s1.heap.objs.size + 1) :: (us ++ permL ix ws)) := .cons rfl (vals_app rv (permL_vals rw' ix))
  have bd := hb.to _ (Value.ref (s1.heap.objs.size + 1) :: us) ws I2.kIn (by rw [List.length_cons, ← rv.length, ← rs.length, l1]) (by rw [← rw'.length, ← rz.length]; exact l2)
  rw [List.cons_append] at bd
  refine wpAny_call (make_map (f := f) I1.kIn Mc.makes Mc.init (beq_iff_eq.mp Mc.fn) (codeAny_mono (F.run _ X.stack _ _ _ _ _ _ _ (hr.make (nm.cls cn) us (ks.zip ws)) (fun z => absurd z (by decide)) (I2.env0.make (nm.cls cn) us (ks.zip ws)) bd r2 sp) fun r s' hq' => ?_))
  match r, hq' with
  | .error er, hq' => exact tk er s' (XE.of_call I2 (fun _ _ _ h => h) hq')
  | .ok (.ret u), hq' =>
    obtain ⟨v, H', I3, rv', ev, q3⟩ := I2.after hq'
    subst ev
    exact ⟨rv', ⟨V.ref (s1.heap.objs.size + 1), H', I3, rfl, q3⟩⟩
  | .ok .next, hq' => exact hq'.elim
  | .ok .brk, hq' => exact hq'.elim
  | .ok .cont, hq' => exact hq'.elim
theorem wMkK0 (cc : Cc gd X W k) {x : Str} {p : Pos} {cn j n : Nat} {g : CF} {ks : List Str} {ix : List Nat} {kws : List Keyword} (F : DmK false X.prog X.w X.K X.mg X.base nm cn "__init__" j n g 0 ks ix) (Mc : ∀ f, Meth X.K (nm.cls cn) "__init__" f → Mk X.K (nm.cls cn) f) (hm : X.mg x = some (.ref (nm.cls cn))) (hx : PK X kws (tA nm X.K W ga)) (hj : j + 1 ≤ k := by decide) (hg : Gl X x := by rfl) (hdb : (x == ("__debug__" : Str)) = false := by decide)
    (hall : (backToKw pos (keywordEach kws X.env)).all (·.1.isSome) = true := by rfl) (hks : (backToKw pos (keywordEach kws X.env)).filterMap (·.1) = ks := by rfl)
    (hpl : ((backTo pos (starEach [] X.env)).any (·.1) || (backToKw pos (keywordEach kws X.env)).any (·.1.isNone)) = false := by rfl) : PE X (.Call (.Name x p) [] kws pos) (tE nm X.K W (eMkK 0 ks.length ix g cn aN ga)) := by
  obtain ⟨f, fd, ps, F1, hb, hM⟩ := F.ex
  refine ⟨fun pins s σ H Q I ⟨fr, ρ, G, e, M, r, h⟩ => ?_⟩
  have h : pG nm X.K fr W (gdE nm X.K fr σ Q) ρ G ((ga e M).bind fun es e M => if ([] : List D).length = 0 ∧ es.length = ks.length then mkF g cn ([] ++ permL ix es) e M else .bad) := h
  refine wpAny_Call_Name_kw (ld_glob I hg hm ?_ hdb)
  refine PySem.W.callWith_KW0 (h₀ := X.base) I.ok.mod.kin (Mc f hM).kp hall (thn (hx.run pos pins s σ H (fun vs H1 => ∃ ρ1 G1 e1 M1 ds, SR nm X.K fr ρ1 G1 e1 M1 σ H1 ∧ Rps X.K ρ1 G1 ds vs ∧ pG nm X.K fr W (gdE nm X.K fr σ Q) ρ1 G1 (if ([] : List D).length = 0 ∧ ds.length = ks.length then mkF g cn ([] ++ permL ix ds) e1 M1 else .bad)) I
    (tA.bind gdE_mono r h fun ρ1 G1 e1 M1 ds vs H1 g1 p1 s2 r1 h1 => ⟨ρ1, G1, e1, M1, ds, s2, r1, h1⟩)) fun ws s1 ⟨zs, H1, I1, rv, ρ1, G1, e1, M1, ds, s2, r1, h1⟩ => ⟨I1.kIn, ?_⟩) hpl
  rw [hks]
  split at h1
  · rename_i hc
    exact make_finK (us := []) (vs := []) (ds := []) (Mc f hM) F1 (cc.hr.mono hj) cc.tk hb F.gn I1 .nil rv s2 .nil r1 rfl hc.2 h1
  · exact h1.elim
end
/-! ### repr -/
def reprN : Nat := 100000
def reprB : List D → Option D
  | [.lst xs] => if (D.lst xs).fit && (D.lst xs).toP.showable && !(D.lst xs).toP.hasDict && decide ((D.lst xs).toP.shown.length ≤ reprN) then some (.str (D.lst xs).toP.shown) else none
  | [.tup xs] => if (D.tup xs).fit && (D.tup xs).toP.showable && !(D.tup xs).toP.hasDict && decide ((D.tup xs).toP.shown.length ≤ reprN) then some (.str (D.tup xs).toP.shown) else none
  | _ => none
end PM
namespace PM
open PySem PySem.Spec PyProof.Rows L2
section
variable {gd : Bool} {P : Program} {w : World} {K : Frg} {mg : Str → Option Value} {base : Heap} {nm : Nm} {cn k n m c : Nat} {x qual : Str} {params : Arguments} {body : List Stmt} {scope : Scope} {f : Addr} {fd : FuncData} {ps ks : List Str} {ix : List Nat} {b : SF}
theorem dfk_mk (F : FunD K x qual params body scope [] [] f fd) (hm : mg x = some (.ref f)) (hb : KwB K fd ps c ks ix) (Fn : FnG gd P w K mg base k f fd ps (spD nm K n (defC n m b))) : DfK gd P w K mg base nm x k n (defC n m b) c ks ix := ⟨⟨f, fd, ps, Fn, hb, hm, F.kp⟩, defC_len⟩
theorem dmk_mk (F : FunD K x qual params body scope [] [] f fd) (hm : Meth K (nm.cls cn) x f) (hb : KwB K fd ps (c + 1) ks ix) (Fn : FnG gd P w K mg base k f fd ps (spD nm K n (defC n m b))) : DmK gd P w K mg base nm cn x k n (defC n m b) c ks ix := ⟨⟨f, fd, ps, Fn, hb, hm⟩, defC_len⟩
end
section
variable {gd : Bool} {X : Cx} {nm : Nm} {W : WX} {k : Nat} {pos : Pos} {a : Expr} {fa : EF}
theorem wIIe {x : Str} {p : Pos} {kvs : List (Int × Int)} (h : ∃ d, X.mg x = some (.ref d) ∧ TbI X.K d kvs) (ha : PE X a (tE nm X.K W fa)) (hg : Gl X x := by rfl) (hdb : (x == ("__debug__" : Str)) = false := by decide) (hmk : behindInMarks .In (.Name x p) = false := by rfl) : PE X (.Compare a [.In] [.Name x p] pos) (tE nm X.K W (eII false kvs fa)) := by
  obtain ⟨d, h1, h2⟩ := h
  exact sE_inI ha hg h1 hdb h2 hmk
theorem wNIIe {x : Str} {p : Pos} {kvs : List (Int × Int)} (h : ∃ d, X.mg x = some (.ref d) ∧ TbI X.K d kvs) (ha : PE X a (tE nm X.K W fa)) (hg : Gl X x := by rfl) (hdb : (x == ("__debug__" : Str)) = false := by decide) (hmk : behindInMarks .NotIn (.Name x p) = false := by rfl) : PE X (.Compare a [.NotIn] [.Name x p] pos) (tE nm X.K W (eII true kvs fa)) := by
  obtain ⟨d, h1, h2⟩ := h
  exact sE_ninI ha hg h1 hdb h2 hmk
end
end PM

namespace PM
open PySem PySem.Spec PyProof.Rows L2
/-! ### repr of small things -/
mutual
def smD : D → Bool
  | .non => true
  | .bl _ => true
  | .int i => decide (i.natAbs < 10 ^ 36)
  | .str x => PyData.strOk x && decide (x.cps.size ≤ 40)
  | .tup xs => smDs xs
  | .lst xs => smDs xs
  | _ => false
def smDs : List D → Bool
  | [] => true
  | x :: r => smD x && smDs r
end
mutual
def nodes : D → Nat
  | .tup xs => nodess xs + 1
  | .lst xs => nodess xs + 1
  | _ => 1
def nodess : List D → Nat
  | [] => 0
  | x :: r => nodes x + nodess r
end
mutual
theorem smD_data : ∀ d : D, smD d = true → d.isData = true
  | .non, _ => rfl
  | .bl _, _ => rfl
  | .int _, _ => rfl
  | .str x, h => by simp only [smD, Bool.and_eq_true] at h; exact h.1
  | .tup xs, h => by simp only [D.isData]; exact smDs_data xs (by simpa only [smD] using h)
  | .lst xs, h => by simp only [D.isData]; exact smDs_data xs (by simpa only [smD] using h)
  | .scr _, h => by simp [smD] at h
  | .dic _ _, h => by simp [smD] at h
  | .ref _, h => by simp [smD] at h
  | .exc _ _ _, h => by simp [smD] at h
  | .exb _, h => by simp [smD] at h
  | .dcs _ _, h => by simp [smD] at h
theorem smDs_data : ∀ l : List D, smDs l = true → isDatas l = true
  | [], _ => rfl
  | x :: r, h => by
    simp only [smDs, Bool.and_eq_true] at h
    rw [isDatas, smD_data x h.1, smDs_data r h.2]; rfl
end
mutual
theorem smD_show : ∀ d : D, smD d = true → d.toP.showable = true ∧ d.toP.intsShort 40 = true ∧ d.toP.weight + 1 ≤ 201 * nodes d
  | .non, _ => ⟨rfl, rfl, by decide⟩
  | .bl _, _ => ⟨rfl, rfl, show 0 + 1 ≤ 201 * 1 by decide⟩
  | .int i, h => by
    simp only [smD, decide_eq_true_eq] at h
    have h2 : i.natAbs.log2 < 120 := by
      by_cases z : i.natAbs = 0
      · rw [z]; decide
      · exact (Nat.log2_lt z).mpr (Nat.lt_trans h (by decide))
    refine ⟨?_, ?_, ?_⟩
    · show decide (i.natAbs.log2 < 1920) = true
      exact decide_eq_true (by omega)
    · show decide ((PyData.shown (.int i)).length ≤ 40) = true
      have e := int_text_length_le10 (a := i) (k := 36) (by decide) h
      refine decide_eq_true ?_
      show (Str.ofString (toString i)).length ≤ 40
      rw [PySem.ofString_length]; omega
    · show (if i == 0 then 0 else i.natAbs.log2 + 1) + 1 ≤ 201 * 1
      split <;> omega
  | .str x, h => by
    simp only [smD, Bool.and_eq_true, decide_eq_true_eq] at h
    exact ⟨rfl, rfl, by show x.cps.size + 1 ≤ 201 * 1; omega⟩
  | .tup xs, h => by
    obtain ⟨h1, h2, h3⟩ := smDs_show xs (by simpa only [smD] using h)
    refine ⟨by simpa only [D.toP, PyData.showable] using h1, by simpa only [D.toP, PyData.intsShort] using h2, ?_⟩
    simp only [D.toP, PyData.weight, nodes]
    omega
  | .lst xs, h => by
    obtain ⟨h1, h2, h3⟩ := smDs_show xs (by simpa only [smD] using h)
    refine ⟨by simpa only [D.toP, PyData.showable] using h1, by simpa only [D.toP, PyData.intsShort] using h2, ?_⟩
    simp only [D.toP, PyData.weight, nodes]
    omega
  | .scr _, h => by simp [smD] at h
  | .dic _ _, h => by simp [smD] at h
  | .ref _, h => by simp [smD] at h
  | .exc _ _ _, h => by simp [smD] at h
  | .exb _, h => by simp [smD] at h
  | .dcs _ _, h => by simp [smD] at h
theorem smDs_show : ∀ l : List D, smDs l = true → PyData.showableAll (toPs l) = true ∧ PyData.intsShortAll 40 (toPs l) = true ∧ PyData.weightAll (toPs l) ≤ 201 * nodess l
  | [], _ => ⟨rfl, rfl, Nat.zero_le _⟩
  | x :: r, h => by
    simp only [smDs, Bool.and_eq_true] at h
    obtain ⟨a1, a2, a3⟩ := smD_show x h.1
    obtain ⟨b1, b2, b3⟩ := smDs_show r h.2
    simp only [toPs, PyData.showableAll, PyData.intsShortAll, PyData.weightAll, nodess]
    refine ⟨by rw [a1, b1]; rfl, by rw [a2, b2]; rfl, ?_⟩
    omega
end
/-- what repr shows, of small things -/
def reprS (d : D) : Option D := if smD d && decide (d.dep ≤ 60) && decide (nodes d ≤ 1900) then some (.str d.toP.shown) else none
def reprC : List D → Option D
  | [.bl b] => some (.str (if b then "True" else "False"))
  | [.tup xs] => reprS (.tup xs)
  | [.lst xs] => reprS (.lst xs)
  | _ => none
section
variable {X : Cx} {nm : Nm}
theorem b_repr (hg : X.A.guards = some []) (hu : X.A.units + 65 < cLine) : CallR X (.builtin "repr") (rBi X.K reprC) := by
  intro pins s σ H xs us Q I rv ⟨ρ, G, ds, d, hs, r, h, q⟩
  have seq : ∀ {dd : D} {v : V} {a : Addr}, Rp X.K ρ G dd v → v = .ref a → reprS dd = some d → Vals [v] us → wpAny (model X.prog X.w) X.A (call (.builtin "repr") us) (EP X pins σ Q) X.xe s := by
    intro dd v a ra ev h rv
    subst ev
    unfold reprS at h
    rw [Option.ite_none_right_eq_some] at h
    obtain ⟨hc, h⟩ := h
    cases h
    simp only [Bool.and_eq_true, decide_eq_true_eq] at hc
    obtain ⟨u, rfl, ru⟩ := vals1 rv
    obtain rfl : u = Value.ref a := ru
    obtain ⟨h1, h2, h3⟩ := smD_show dd hc.1.1
    have hdat := smD_data dd hc.1.1
    have dp := Rp.dp hs ra hdat
    obtain ⟨as, rd⟩ := Dp.reads I _ _ _ dp (show L2.RelV (.ref a) (.ref a) from rfl)
    have hlay : dd.toP.canLay0 = true ∧ dd.toP.depth = dd.dep := toP_lay dd hdat
    have hsz : dd.toP.shown.length ≤ sizeLine := by
      have := PyData.shown_le 40 (by decide) dd.toP (PyData.leavesShort_of_canLay0 40 dd.toP hlay.1 h2)
      rw [sizeLine_eq]; omega
    exact repr_of_reads' rd h1 (PyData.noDict_hsm (PyData.hasDict_of_canLay _ hlay.1)) hg (by rw [hlay.2]; omega) (fun _ _ e => e) (fun h' u tk hk => ⟨.str dd.toP.shown, H, I.kept hk, ⟨_, rfl⟩, q.sc (.str _)⟩) hsz
  unfold reprC at h
  split at h
  · rename_i b
    cases h
    obtain ⟨v, rfl, rd⟩ := r.one
    cases rd
    obtain ⟨u, rfl, rfl⟩ := vals1 rv
    exact PySem.P.repr_of_bool ⟨.str _, H, I.tok _, ⟨_, rfl⟩, q.sc (.str _)⟩
  · obtain ⟨v, rfl, rd⟩ := r.one
    cases rd with
    | tup sq rs => exact seq (.tup sq rs) rfl h rv
  · obtain ⟨v, rfl, rd⟩ := r.one
    cases rd with
    | lst sq rs => exact seq (.lst sq rs) rfl h rv
  · cases h
end
end PM

namespace PM
open PySem PySem.Spec PyProof.Rows L2
/-! ### the end of a row whose defs show things: nothing is under way around the law's call -/
abbrev emp : Obj := { cls := .none, data := .fields #[] }
abbrev scrO (vs : List Value) : Obj := { cls := .type "list", data := .seq vs.toArray }
/-- what is tracked at the law's call: the tables, and the script where the head does not know it -/
def trk0 (K : Frg) (T : List Addr) (a : Addr) (vs : List Value) (ns : List Int) : Hp := fun b =>
  if b ∈ T then some (.tbl #[]) else if b = a ∧ K.lookup a = none then some (.frz (scrO vs) (.lst (ns.map V.int))) else none
section
variable {K : Frg} {T : List Addr} {a : Addr} {vs : List Value} {ns : List Int}
theorem trk_tab {b : Addr} (h : b ∈ T) : trk0 K T a vs ns b = some (.tbl #[]) := if_pos h
theorem trk_scr (h : a ∉ T) (hk : K.lookup a = none) : trk0 K T a vs ns a = some (.frz (scrO vs) (.lst (ns.map V.int))) := by
  unfold trk0; rw [if_neg h, if_pos ⟨rfl, hk⟩]
theorem trk_cases (b : Addr) : trk0 K T a vs ns b = none ∨ b ∈ T ∨ (b ∉ T ∧ b = a ∧ K.lookup a = none) := by
  unfold trk0
  by_cases h : b ∈ T
  · exact .inr (.inl h)
  · by_cases h2 : b = a ∧ K.lookup a = none
    · exact .inr (.inr ⟨h, h2⟩)
    · rw [if_neg h, if_neg h2]; exact .inl rfl
/-- what is neither the script nor an empty table is not tracked -/
theorem trk_off {h : Heap} (tb : ∀ b ∈ T, h.get? b = some emp) (ha : h.get? a = some (scrO vs)) {b : Addr} {o : Obj} (e : h.get? b = some o) (h1 : o.data ≠ .seq vs.toArray) (h2 : o.data ≠ .fields #[]) : trk0 K T a vs ns b = none := by
  rcases trk_cases (K := K) (vs := vs) (ns := ns) (a := a) (T := T) b with q | q | ⟨_, q, _⟩
  · exact q
  · have z := tb b q
    rw [e] at z
    exact absurd (congrArg Obj.data (Option.some.inj z)) h2
  · rw [q, ha] at e
    exact absurd (congrArg Obj.data (Option.some.inj e)).symm h1
end
theorem end_gd {P : Program} {w : World} {K : Frg} {mg mb : Str → Option Value} {k : Nat} {fa a : Addr} {cs : List (Addr × Addr)} {fd : FuncData} {x : Str} {sp : Sp} {s : Shared} {vs : List Value} {ns : List Int} (KX : K.In s.heap) (gl : s.heap.Ns mainGlobals mg) (bl : s.heap.Ns builtinsNs mb)
    (bb : ∀ x : Str, x ≠ "__name__" → mb x = bootBuiltins x) (nl : s.heap.NoLimit) (ge : s.gens = #[]) (tb : ∀ p ∈ cs, s.heap.get? p.2 = some emp) (tk : ∀ p ∈ cs, K.lookup p.2 = none) (C : ∀ p ∈ cs, PySem.W.CodeHd s.heap p.1 p.2)
    (bm : ∃ (bm : Addr) (ob : Obj), mg "__builtins__" = some (.ref bm) ∧ bm ≠ builtinsNs ∧ s.heap.get? bm = some ob ∧ ob.cls = .type "module" ∧ ob.dict = some builtinsNs ∧ ob.data = .plain) (ha : s.heap.get? a = some (scrO vs)) (hi : IntsAre vs ns) (hl : ns.length ≤ sizeLine) (hr : Room k callerA)
    (F : ∀ base : Heap, K.In base → base.Ns mainGlobals mg → (∀ p ∈ cs, LamX.TabB base mg p.1 p.2) → FnG true P w K mg base k fa fd [x] sp) (bind : ∀ (s : Shared) (u : Value), BindsTo s fd ⟨[u], []⟩ [(x, u)])
    (hsp : ∀ H : Hp, (∀ p ∈ cs, H p.2 = some (.tbl #[])) → SqL K H a (ns.map V.int) → sp [.ref a] H (fun v _ => v = .bl true) fun _ _ _ => False) (nx : ∀ H e s', L2.CX P w [] H s (fun _ _ _ => False) e s' → False) :
    codeAny (model P w) callerA (.call (.ref fa) ⟨[.ref a], []⟩) (fun r s' => r = .ok (.ret (.bool true)) ∧ OldK s.heap s'.heap ∧ s'.os = s.os ∧ AllBare s'.gens) s := by
  have inT : ∀ p ∈ cs, p.2 ∈ cs.map (·.2) := fun p hp => List.mem_map_of_mem hp
  have tb' : ∀ b ∈ cs.map (·.2), s.heap.get? b = some emp := fun b hb => by
    obtain ⟨p, hp, rfl⟩ := List.mem_map.mp hb
    exact tb p hp
  have aT : a ∉ cs.map (·.2) := fun z => by
    have e := tb' a z
    rw [ha] at e
    have e := congrArg Obj.data (Option.some.inj e)
    cases e
  have rv := vals_ints hi
  generalize hH : trk0 K (cs.map (·.2)) a vs ns = H
  have off : ∀ {b : Addr} {o : Obj}, s.heap.get? b = some o → o.data ≠ .seq vs.toArray → o.data ≠ .fields #[] → H b = none := fun e h1 h2 => by rw [← hH]; exact trk_off tb' ha e h1 h2
  have sub : ∀ {b : Addr} {o : Obj}, s.heap.get? b = some o → o.data ≠ .seq vs.toArray → o.data ≠ .fields #[] → (hidT s.heap H).get? b = some o := fun e h1 h2 => hidT_get e (off e h1 h2)
  have names : ∀ {b : Addr} {m : Str → Option Value}, s.heap.Ns b m → (hidT s.heap H).Ns b m := fun ⟨o, es, ep, e, d, r⟩ => ⟨o, es, ep, sub e (by rw [d]; intro z; cases z) (by rw [d]; intro z; cases z), d, r⟩
  have Kb : K.In (hidT s.heap H) := fun b o e => hidT_get (KX b o e) (by
    rw [← hH]
    rcases trk_cases (K := K) (vs := vs) (ns := ns) (a := a) (T := cs.map (·.2)) b with q | q | ⟨_, q, q2⟩
    · exact q
    · obtain ⟨p, hp, rfl⟩ := List.mem_map.mp q
      rw [tk p hp] at e; cases e
    · rw [q, q2] at e; cases e)
  have md : L2.Mod K mg (hidT s.heap H) := ⟨Kb, names gl, ⟨mb, names bl, bb⟩, let ⟨mc, h1, h2⟩ := nl; ⟨mc, names h1, h2⟩⟩
  have hok : HOk P w H s.heap := fun b o e => by
    rw [← hH] at e
    rcases trk_cases (K := K) (vs := vs) (ns := ns) (a := a) (T := cs.map (·.2)) b with q | q | ⟨q0, q, q2⟩
    · rw [q] at e; cases e
    · rw [trk_tab q] at e
      cases e
      exact tb' b q
    · subst q
      rw [trk_scr q0 q2] at e
      cases e
      exact ⟨ha, by rw [List.length_map]; exact hl, vs, _, rv, ha⟩
  have sq : SqL K H a (ns.map V.int) := by
    cases hk : K.lookup a with
    | none => rw [← hH]; exact .inl (.inr ⟨_, trk_scr aT hk⟩)
    | some o =>
      have e := KX a o hk
      rw [ha] at e
      cases e
      exact .inr ⟨_, vs.toArray, _, hk, rfl, rfl, rfl, by rw [List.size_toArray, hi.length]; exact hl, by simpa using rv⟩
  have tabs : ∀ p ∈ cs, LamX.TabB (hidT s.heap H) mg p.1 p.2 := fun p hp => by
    refine ⟨?_, ?_, fun z => ?_⟩
    · obtain ⟨o, us, file, tf, flags, tg, inF, text, tt, e1, r1, r2, r3, r⟩ := C p hp
      refine ⟨o, us, file, tf, flags, tg, inF, text, tt, sub e1 (by rw [r2]; intro z; cases z) (by rw [r2]; intro z; cases z; simp at r3), r1, r2, r3, r⟩
    · obtain ⟨bm, ob, b1, b2, b3, b4, b5, b6⟩ := bm
      refine ⟨bm, ob, b1, b2, fun z => ?_, fun z => ?_, sub b3 (by rw [b6]; intro z; cases z) (by rw [b6]; intro z; cases z), b4, b5, b6⟩
      · obtain ⟨o, es, ep, e, d, _⟩ := gl
        rw [z, e] at b3
        cases b3
        rw [d] at b6; cases b6
      · rw [z, tb p hp] at b3
        cases b3; cases b6
    · obtain ⟨o, es, ep, e, d, _⟩ := gl
      rw [z, tb p hp] at e
      cases e; cases d
  have hHt : ∀ p ∈ cs, H p.2 = some (.tbl #[]) := fun p hp => by rw [← hH]; exact trk_tab (inT p hp)
  have e0 : Env0 P w K mg (hidT s.heap H) callerA [] s H := ⟨rfl, md, fun b o e => of_hidT e, Nat.le_of_eq (hidT_size _ _), trivial, fun b hb => (by simp [frs] at hb), hok, .of_eq ge⟩
  refine codeAny_mono ((F _ Kb (names gl) tabs).run callerA [] s H ⟨[.ref a], []⟩ [.ref a] [.ref a] _ _ hr (fun _ => rfl) e0 (bind s (.ref a)) (.cons rfl .nil) (hsp H hHt sq)) fun r s' h => ?_
  match r, h with
  | .error e, h => exact (nx H e s' h).elim
  | .ok .next, h => exact h.elim
  | .ok .brk, h => exact h.elim
  | .ok .cont, h => exact h.elim
  | .ok (.ret u), ⟨v, H', os, bare, un, hok', ru, q⟩ =>
    obtain rfl : v = .bl true := q
    obtain rfl : u = Value.bool true := ru
    have more : ∀ p ∈ cs, ∃ m : Array Value, s'.heap.get? p.2 = some { cls := .none, data := .fields m } := fun p hp => by
      obtain ⟨m, z⟩ := un.tbls p.2 #[] (hHt p hp)
      exact ⟨_, hok' p.2 _ z⟩
    have keep : ∀ b o, b ∉ cs.map (·.2) → s.heap.get? b = some o → s'.heap.get? b = some o := fun b o nb e => by
      rcases trk_cases (K := K) (vs := vs) (ns := ns) (a := a) (T := cs.map (·.2)) b with q | q | ⟨q0, q, q2⟩
      · rw [hH] at q
        exact un.keep b o e q (by simp [frs]) (by simp)
      · exact absurd q nb
      · have z := trk_scr (vs := vs) (ns := ns) aT q2
        rw [hH, ← q] at z
        have z2 := hok' b _ (un.frzs b _ _ z)
        have z1 : s.heap.get? b = some (scrO vs) := (hok b _ z).1
        rw [e] at z1
        have e3 : o = scrO vs := Option.some.inj z1
        rw [e3]
        exact z2.1
    refine ⟨rfl, ⟨fun b o e => ?_, fun b o e => ?_⟩, os, bare⟩
    · by_cases hb : b ∈ cs.map (·.2)
      · obtain ⟨p, hp, rfl⟩ := List.mem_map.mp hb
        obtain ⟨m, hm⟩ := more p hp
        rw [tb p hp] at e
        cases e
        exact .inr (.inl ⟨((C p hp).tab (tb p hp)).isCodeTable, rfl, #[], m, rfl, by rw [Array.empty_append]; exact hm⟩)
      · exact .inl (keep b o hb e)
    · by_cases hb : b ∈ cs.map (·.2)
      · obtain ⟨p, hp, rfl⟩ := List.mem_map.mp hb
        obtain ⟨m, hm⟩ := more p hp
        exact ⟨_, hm⟩
      · exact ⟨o, keep b o hb e⟩
/-- the end of a row -/
theorem walk_gd {l : PySem.W.OpenLaw} {n k : Nat} {q : Program} {loose : List Str} {XP : (Str → Option Value) → Heap → Prop} {YP : World → Heap → Prop} {d : DefRec} {x : Str} (hn : l.most = some n) (hn2 : n ≤ sizeLine) (hdf : d.params.defaults = []) (hr : Room k callerA)
    (F : ∀ (w : World) (mg : Str → Option Value) (fa : Addr) (h : Heap), YP w h → h.Ns mainGlobals mg → mg d.name = some (.ref fa) → ∃ (K : Frg) (fd : FuncData) (cs : List (Addr × Addr)) (sp : Sp), K.In h ∧ (∀ p ∈ cs, h.get? p.2 = some emp) ∧ (∀ p ∈ cs, K.lookup p.2 = none) ∧ (∀ p ∈ cs, PySem.W.CodeHd h p.1 p.2) ∧
      (∀ (s : Shared) (u : Value), BindsTo s fd ⟨[u], []⟩ [(x, u)]) ∧ (∀ (H : Hp) (a : Addr) (ns : List Int), ns.length ≤ n → (∀ p ∈ cs, H p.2 = some (.tbl #[])) → SqL K H a (ns.map V.int) → sp [.ref a] H (fun v _ => v = .bl true) fun _ _ _ => False) ∧
      ∀ base : Heap, K.In base → base.Ns mainGlobals mg → (∀ p ∈ cs, LamX.TabB base mg p.1 p.2) → FnG true l.prog w K mg base k fa fd [x] sp)
    (nx : ∀ (w : World) (H : Hp) (s : Shared) (e : Value) (s' : Shared), L2.CX l.prog w [] H s (fun _ _ _ => False) e s' → False) : PySem.W.WalkO q loose XP YP l.row.toRowW d [] (fun f vs => PySem.call f vs) := by
  refine Att.attach_callB hn hdf fun w s₀ s₁ mg mb fa o pm cd doc a vs ns G Y ho hd hcd hmg hobj hints hlen hbits hg => ?_
  obtain ⟨K, fd, cs, sp, KX, h1, h2, h3, h4, h5, h6⟩ := F w mg fa _ Y G.T.g hmg
  exact end_gd KX G.T.g G.T.b G.T.builtins G.T.nolimit hg h1 h2 h3 G.T.bmain hobj hints (Nat.le_trans hlen hn2) hr h6 h4 (fun H hH hS => h5 H a ns hlen hH hS) (nx w · s₁ · ·)
end PM

namespace PM
open PySem PySem.Spec PyProof.Rows L2
/-! ### try .. except C as e: x = e; what follows may look at x -/
abbrev pinned (X : Cx) (q : Addr × Obj) : Cx := { X with pn := q :: X.pn }
section
variable {X : Cx}
theorem pinned_ok (ok : X.Ok) (q : Addr × Obj) : (pinned X q).Ok :=
  ⟨ok.mod, ok.kind, ok.glob, ok.blt, ok.above, ok.inj, ok.has, ok.cab, ok.hd, ok.frames, ok.stk, ok.exf, ok.bs, ok.bsz, ok.noex, ok.exfs, ok.funs, ok.frf⟩
theorem inv_pin {pins : List (Addr × Obj)} {σ : L2.St} {H : Hp} {s : Shared} {q : Addr × Obj} (I : Inv X (q :: pins) σ H s) : Inv (pinned X q) pins σ H s :=
  ⟨pinned_ok I.ok q, I.os, I.bare, I.base, I.loc, I.cell, I.free, I.freeC, fun p hp => I.pin p (by
    rcases List.mem_append.mp hp with h | h
    · rcases List.mem_cons.mp h with e | h
      · exact List.mem_append_right _ (e ▸ List.mem_cons_self)
      · exact List.mem_append_left _ h
    · exact List.mem_append_right _ (List.mem_cons_of_mem _ h)), I.hok, I.len⟩
theorem inv_unpin {pins : List (Addr × Obj)} {σ : L2.St} {H : Hp} {s : Shared} {q : Addr × Obj} (ok : X.Ok) (I : Inv (pinned X q) pins σ H s) : Inv X pins σ H s :=
  ⟨ok, I.os, I.bare, I.base, I.loc, I.cell, I.free, I.freeC, fun p hp => I.pin p (by
    rcases List.mem_append.mp hp with h | h
    · exact List.mem_append_left _ (List.mem_cons_of_mem _ h)
    · exact List.mem_append_right _ h), I.hok, I.len⟩
theorem inv_suitePin {pins : List (Addr × Obj)} {σ : L2.St} {H : Hp} {s : Shared} {a : Addr} {q : Addr × Obj} (ok : X.Ok) (I : Inv (X.suite a (q :: (X.pn ++ pins))) [] σ H s) : Inv X (q :: pins) σ H s :=
  ⟨ok, I.os, I.bare, I.base, I.loc, I.cell, I.free, I.freeC, fun p hp => I.pin p (by
    rw [List.append_nil]
    rcases List.mem_append.mp hp with h | h
    · exact List.mem_cons_of_mem _ (List.mem_append_left _ h)
    · rcases List.mem_cons.mp h with e | h
      · exact e ▸ List.mem_cons_self
      · exact List.mem_cons_of_mem _ (List.mem_append_right _ h)), I.hok, I.len⟩
def wKeep (K : Frg) (c : Value) (i : Nat) (ts tr : Addr → Value → Option Addr → TS) (Wout : WX) (D : Ends) : WX := fun cls d σ H =>
  ∃ b, PySem.W.exmOne K cls c = some b ∧ (b = true → ∀ a, H a = none → ts a cls d { nx := fun σ' H' => tr a cls d D (σ'.set i none) H', rt := fun _ _ => False, bk := fun _ _ => False, ct := fun _ _ => False } (σ.set i (some (.ref a))) H) ∧
    (b = false → Wout cls d σ H)
theorem pss_try_keep {x n : Str} {c : Value} {i : Nat} {body suite rest : List Stmt} {b₀ : Stmt} {np pos pos' : Pos} {tb : WX → TS} {ts tr : Addr → Value → Option Addr → TS} {t0 : TS} {Wout : WX} (hs : X.stack = X.env :: X.outer) (hf : X.env.frame = some X.env.locals) (hN : X.N.Nodup) (hi : X.N[i]? = some n) (hln : X.env.kindOf n = some .local) (hc : Names X x c) (tk : Takes X Wout)
    (hb : ∀ (W : WX) (pn : List (Addr × Obj)) (xe : Value → Shared → Prop), Takes (X.tr pn xe) W → PassesOwn (model X.prog X.w) X.A X.env xe → PSs (X.tr pn xe) body (tb W))
    (hsu : ∀ (a : Addr) (oe : Obj) (cls : Value) (d : Option Addr) (pn : List (Addr × Obj)), Zc cls d oe → (∃ vs, oe.data = .fields vs) → PSs (X.suite a ((a, oe) :: pn)) (b₀ :: suite) (ts a cls d))
    (hr : ∀ (a : Addr) (oe : Obj) (cls : Value) (d : Option Addr), Zc cls d oe → (∃ vs, oe.data = .fields vs) → PSs (pinned X (a, oe)) rest (tr a cls d)) (h0 : PSs X rest t0) :
    PSs X (.Try body [.ExceptHandler (some (.Name x np)) (some n) (b₀ :: suite) pos'] [] [] pos :: rest) (fun D σ H => tb (wKeep X.K c i ts tr Wout D) { D with nx := t0 D } σ H) := by
  refine ⟨fun pins s σ H D I h => ?_⟩
  have ok := I.ok
  have frames : X.A.frames = some (X.env :: X.outer) := by rw [ok.frames, hs]
  have loc : Loc X.env.scope n := .inl hln
  refine wpAny_execs_cons (wpAny_Try_except ?_)
  refine wpAny_mono ((hb (wKeep X.K c i ts tr Wout D) (X.pn ++ pins) (fun e s₁ => wpAny (model X.prog X.w) X.A (noteFrame e X.env) (fun _ s₂ => wpAny (model X.prog X.w) X.A (setFlight e none) (fun _ s₃ =>
    wpAny (model X.prog X.w) X.A (handleBy e X.env [.ExceptHandler (some (.Name x np)) (some n) (b₀ :: suite) pos']) (fun fl s₄ => match fl with | .next => wpAny (model X.prog X.w) X.A (execs rest X.env) (SP X pins D) X.xe s₄ | fl => SP X pins D fl s₄) X.xe s₃) X.xe s₂) X.xe s₁) (fun u s' xx => ?_) PassesOwn.looking).run [] s σ H { D with nx := t0 D } (I.toTry _) h)
    (fun fl s1 hsp => ?_) (fun e s1 he => he)
  · obtain ⟨a, B, sI, pins', σ', H', cls, d, rfl, J', nb, up, sky, na, os, ag, b, hb1, hyes, hno⟩ := xx
    have J : Inv X pins σ' H' sI := J'.ofTry ok
    have sky : Sky B (X.env :: X.outer) a (Zc cls d) X.env.locals s'.heap := by rw [← hs]; exact sky
    show wpAny (model X.prog X.w) X.A (noteFrame (.ref a) X.env) _ _ _
    refine Sky.land Zc.steady frames hf sky fun h3 fl3 up3 => ?_
    have J3 : Inv X pins σ' H' { s' with heap := h3 } := J.landed nb fl3.1 (up.trans up3) os ag
    obtain ⟨oe3, vs3, he3, hz3, hd3⟩ := fl3.there
    have nfr : a ∉ frs (X.env :: X.outer) := fun hm => by
      obtain ⟨_, o', e', hnf⟩ := fl3.2.2.1.mem hm
      rw [he3] at e'; cases e'
      exact hnf _ hd3
    have nL : a ≠ X.env.locals := fun z => nfr (List.mem_filterMap.mpr ⟨X.env, List.mem_cons_self, by rw [hf, z]⟩)
    have nF : a ∉ X.fs := fun hm => by
      obtain ⟨e, he, q⟩ := List.mem_filterMap.mp hm
      exact nfr (List.mem_filterMap.mpr ⟨e, List.mem_cons_of_mem _ he, q⟩)
    have S3 := J3.suite he3 hd3 na nL nF
    refine wpAny_handleBy_cons (codeAny_handlers_test ?_) (by intro q; cases q)
    have LT : PySem.W.Looks (model X.prog X.w) h3 (typeOf (.ref a)) cls := fun A Q E s k q => wpAny_typeOf_ref (k _ _ he3) (by rw [hz3.1]; exact q)
    have LM := PySem.W.exm_one (M := model X.prog X.w) (J3.kIn) LT hb1
    have test : ∀ {Q : Value → Shared → Prop} {E : Value → Shared → Prop}, Q c { s' with heap := h3 } → wpAny (model X.prog X.w) (X.A.mark (some (.ref a))) (eval (.Name x np) X.env) Q E { s' with heap := h3 } := fun {Q E} q => by
      obtain ⟨hg, hdbg, hm | ⟨hm, hv, hnn⟩⟩ := hc
      · exact ld_glob (X := X.suite a ((a, oe3) :: (X.pn ++ pins))) S3 hg hm q hdbg
      · exact ld_blt (X := X.suite a ((a, oe3) :: (X.pn ++ pins))) S3 hg hm hv q hnn hdbg
    refine test (LM.here ?_)
    cases b with
    | true =>
      refine codeAny_handlers_suite_as ?_
      refine HandSPX.lands_againZ fl3 fun h4 fl4 up4 => ?_
      have J4 : Inv X pins σ' H' { s' with heap := h4 } := J.landed nb fl4.1 ((up.trans up3).trans up4) os ag
      obtain ⟨oe4, vs4, he4, hz4, hd4⟩ := fl4.there
      refine store_ok (X := X.suite a ((a, oe4) :: (X.pn ++ pins))) (v := .ref a) (J4.suite he4 hd4 na nL nF) hN hi loc rfl (fun s5 S5 => ?_) (.inr hln)
      refine wpAny_mono ((hsu a oe4 cls d (X.pn ++ pins) hz4 ⟨_, hd4⟩).run [] s5 _ H' _ S5 (hyes rfl a na)) (fun fl s6 hsp => ?_) (fun _ _ z => False.elim z)
      cases fl with
      | next =>
        obtain ⟨σ6, H6, S6, q6⟩ := hsp
        refine gone_ok (inv_suitePin ok S6) hN hi hln fun s7 J7 => ?_
        refine wpAny_mono ((hr a oe4 cls d hz4 ⟨_, hd4⟩).run pins s7 _ H6 D (inv_pin J7) q6) (fun fl s8 h8 => ?_) (fun _ _ z => z)
        cases fl with
        | next => obtain ⟨σ', H', J', q⟩ := h8; exact ⟨σ', H', inv_unpin ok J', q⟩
        | brk => obtain ⟨σ', H', J', q⟩ := h8; exact ⟨σ', H', inv_unpin ok J', q⟩
        | cont => obtain ⟨σ', H', J', q⟩ := h8; exact ⟨σ', H', inv_unpin ok J', q⟩
        | ret u => obtain ⟨v, σ', H', J', r, q⟩ := h8; exact ⟨v, σ', H', inv_unpin ok J', r, q⟩
      | brk => obtain ⟨_, _, _, q⟩ := hsp; exact q.elim
      | cont => obtain ⟨_, _, _, q⟩ := hsp; exact q.elim
      | ret u => obtain ⟨_, _, _, _, _, q⟩ := hsp; exact q.elim
    | false =>
      show wpAny _ X.A (handleBy (.ref a) X.env []) _ _ _
      refine wpAny_handleBy_nil ?_
      obtain ⟨k1, k2, k3, oe, vs, T, oT, ts', he, hz, hd, h1, hr'⟩ := id fl3
      unfold PySem.passOn
      refine wpAny_bind (wpAny_field he hd h1 ?_)
      rw [if_neg (show ¬ ((Value.ref T == Value.none) = true) from by simp)]
      have fin : ∀ {R : Flow → Shared → Prop}, wpAny (model X.prog X.w) X.A (setFlight (.ref a) X.env.frame) (fun _ s4 => wpAny (model X.prog X.w) X.A (throw (.ref a) : Sem Flow) R X.xe s4) X.xe { s' with heap := h3 } := fun {R} => by
        rw [hf]
        refine HandSPX.setFlight_upZ fl3 fun h4 hh4 up4 => wpAny_throw (tk _ _ ?_)
        exact ⟨a, B, sI, pins, σ', H', cls, d, rfl, J, nb, (up.trans up3).trans up4, .inr (.inr (by rw [hs]; exact hh4)), na, os, ag, hno rfl⟩
      first
        | exact wpAny_bind (wpAny_pure (wpAny_bind fin))
        | exact wpAny_bind fin
  · cases fl with
    | next =>
      obtain ⟨σ', H', J', q⟩ := hsp
      exact wpAny_execs_nil (h0.run pins s1 σ' H' D (J'.ofTry ok) q)
    | brk =>
      obtain ⟨σ', H', J', q⟩ := hsp
      exact ⟨σ', H', J'.ofTry ok, q⟩
    | cont =>
      obtain ⟨σ', H', J', q⟩ := hsp
      exact ⟨σ', H', J'.ofTry ok, q⟩
    | ret u =>
      obtain ⟨v, σ', H', J', r, q⟩ := hsp
      exact ⟨v, σ', H', J'.ofTry ok, r, q⟩
end
end PM

namespace PM
open PySem PySem.Spec PyProof.Rows L2
/-! ### isinstance of an exception that is held, with or without a dict -/
section
variable {prog : Program} {w : World} {A : Around} {E : Value → Shared → Prop} {s : Shared} {K : Frg} {x D : Addr} {ox : Obj} {od : Option Obj}
open PySem.W PySem.Calls in
theorem findObj_any {C : Addr} {name : Str} {a g : Value} (hc : (clsIn K C).isSome = true) (ha : findIn K (.ref C) name = some (some a)) (hg : specialIn K a "__get__" = some (some g)) (ht : takesIn K a = some true) : findObj K C od name = some (.bind g a) := by
  obtain ⟨cd, hc⟩ := Option.isSome_iff_exists.mp hc
  unfold findObj
  rw [hc, Option.bind_some, ha]
  simp [hg, ht]
open PySem.W PySem.Calls in
theorem cls_of_exc {Q : Option Value → Shared → Prop} (C : ExcC K D) (X : K.In s.heap) (I : InstAt s.heap x ox D od) (h : Q (some (.ref D)) { s with toks := s.toks + 1 }) : wpAny (model prog w) A (getAttr? (.ref x) "__class__") Q E s := by
  have f1 : findObj K D od "__class__" = some (.bind (.builtin "getset_descriptor.__get__") (.builtin "object.__class__")) := findObj_any (by obtain ⟨cd, hc, _⟩ := any_some C.hd; rw [hc]; rfl) C.ha C.hn C.ht
  obtain ⟨hp, gs, dr, tk, os⟩ := s
  have t0 := I.type (M := model prog w)
  have t1 := looks_findIn (M := model prog w) X C.hg
  have t2 := looks_findIn (M := model prog w) X C.hk
  have t3 := looks_find (M := model prog w) X I f1
  have isB : Looks (model prog w) hp (isInstance (.ref x) (.type "BaseException")) true := t0.andThen (looks_subIn X C.hs)
  have n0 : (false && onTheHeap (Value.builtin "BaseException.__getattribute__")) = false := rfl
  have n2 : (Value.builtin "BaseException.__getattribute__" == Value.builtin "object.__getattribute__") = false := by decide +kernel
  have n1 : (onTheHeap (Value.ref D) && Value.builtin "BaseException.__getattribute__" == Value.builtin "object.__getattribute__") = false := by rw [n2]; rfl
  unfold getAttr? getAttrBy? getAttrBy
  refine wpAny_bind (wpAny_mkText (wpAny_bind (wpAny_attempt (wpAny_holding (wpAny_bind (t0.at (wpAny_bind (t1.at ?_))))))))
  show wpAny _ _ (if (onTheHeap (Value.ref D) && Value.builtin "BaseException.__getattribute__" == Value.builtin "object.__getattribute__") = true then _ else _) _ _ _
  rw [n1, if_neg Bool.false_ne_true]
  unfold getAttrByItsOwn hookBefore
  refine wpAny_bind ?_
  rw [if_pos (show onTheHeap (Value.ref D) = true from rfl)]
  refine t2.at (wpAny_bind (wpAny_attempt (wpAny_holding ?_)))
  unfold callGetattribute
  rw [n0, if_neg Bool.false_ne_true]
  unfold boundAndCalled
  rw [PySem.F.excAttr_ValueError.ga.bind (.ref x)]
  refine wpAny_bind (wpAny_pure ?_)
  show wpAny _ _ (call (.builtin "BaseException.__getattribute__") [.ref x, .str "__class__" tk]) _ _ _
  refine wpAny_call (codeAny_call_builtin PySem.F.excAttr_ValueError.ga.plain PySem.F.entry_bexc_ga ?_)
  refine @check_slot (model prog w) _ _ ⟨hp, gs, dr, tk + 1, os⟩ "BaseException.__getattribute__" "BaseException" "__getattribute__" (.ref x) [.str "__class__" tk] [] _ (by decide +kernel) (by decide +kernel) isB (PySem.F.args_bexc_ga (.ref x) (.str "__class__" tk)) ?_
  unfold Builtin.«object.__getattribute__»
  refine wpAny_bind (wpAny_of_eq (a := ((Value.ref x : Value), [Value.str "__class__" tk])) (by first | rfl | (simp only [slotArgs]; rfl)) ?_)
  refine wpAny_bind (wpAny_pure (wpAny_bind (t0.at (wpAny_bind (t3.at ?_)))))
  show wpAny _ _ (holding [Value.builtin "object.__class__"] (call (.builtin "getset_descriptor.__get__") [.builtin "object.__class__", .ref x, .ref D]) >>= ret) _ _ _
  refine wpAny_bind (wpAny_holding (wpAny_call (class_get (s := ⟨hp, gs, dr, tk + 1, os⟩) (ox := ox) (od := od) X I C.hm ?_)))
  refine wpAny_pure ?_
  show wpAny _ _ (handedOut (.ref D)) _ _ _
  rw [handedOut_of (v := .ref D) rfl]
  first
    | exact wpAny_pure (wpAny_pure h)
    | exact wpAny_pure h
    | exact wpAny_pure (wpAny_bind (wpAny_pure (wpAny_pure h)))
open PySem.W PySem.Calls in
theorem at_class (C : ExcC K D) : ∃ c d cd sl, K.lookup D = some ⟨c, d, .cls cd, sl⟩ := by
  obtain ⟨cd, hc, _⟩ := any_some C.hd
  unfold clsIn at hc
  split at hc
  · rename_i c d cd sl ho
    exact ⟨c, d, cd, sl, ho⟩
  · cases hc
theorem kitx_any (C : ExcC K D) : PySem.W.KitX K (.ref x) (.ref D) (fun h => PySem.W.InstAt h x ox D od) where
  ty := fun _ _ _ I => I.type
  it := fun M h X _ => by
    obtain ⟨c, d, cd, sl, ho⟩ := at_class C
    intro A Q E s k q
    unfold isType loadHead
    exact wpAny_bind (wpAny_loadPart (k _ _ (X _ _ ho)) (wpAny_pure q))
  ne := fun h tp dd its n sl X htp => Bool.eq_false_iff.mpr fun q => by
    obtain ⟨c, d, cd, sl', ho⟩ := at_class C
    have e : D = tp := Value.ref.inj (beq_iff_eq.mp q)
    have z := (X _ _ ho).symm.trans (e ▸ htp)
    cases z
  ca := fun X I k => cls_of_exc C X I k
end
section
variable {X : Cx} {D a dd : Addr} {oe : Obj}
/-- the held exception a, of class D: its object oe, its dict at dd -/
theorem inst_pin {s : Shared} {pins : List (Addr × Obj)} {σ : L2.St} {H : Hp} {fs : List (Str × V)} (I : Inv (pinned X (a, oe)) pins σ H s) (hz : Zc (.ref D) (some dd) oe) (hf : ∃ vs, oe.data = .fields vs) (hx : H dd = some (.xd fs)) :
    ∃ (od : Obj) (mA : Str → Option Value), PySem.W.InstAt s.heap a oe D (some od) ∧ (∀ f, RelO (fs.lookup f) (mA f)) ∧ ∀ n, PySem.W.lookIn n od = some (mA n) := by
  obtain ⟨ha, _⟩ := I.pin (a, oe) (List.mem_append_left _ List.mem_cons_self)
  obtain ⟨vs, hd⟩ := hf
  have ho : ObjOk X.prog X.w H s.heap dd (.xd fs) := I.hok dd _ hx
  obtain ⟨mA, hns, hr⟩ := ho
  obtain ⟨od, h1, hl⟩ := lookIn_ns hns
  exact ⟨od, mA, ⟨ha, hz.1, by unfold PySem.W.notCls; rw [hd] <;> rfl, by rw [hz.2]; exact h1⟩, hr, hl⟩
/-- isinstance(e, C) -/
def rIsP (K : Frg) (D a dd : Addr) : List V → Hp → VK → Prop := fun xs H Q => ∃ (c : V) (cv : Value) (b : Bool) (fs : List (Str × V)), xs = [.ref a, c] ∧ H dd = some (.xd fs) ∧ (∀ u, L2.RelV c u → u = cv) ∧ PySem.W.kitOne K (.ref D) cv = some b ∧ Q (.bl b) H
theorem call_isP (C : ExcC X.K D) (hz : Zc (.ref D) (some dd) oe) (hf : ∃ vs, oe.data = .fields vs) : CallR (pinned X (a, oe)) (.builtin "isinstance") (rIsP X.K D a dd) := by
  intro pins s σ H xs us Q I r h
  obtain ⟨c, cv, b, fs, rfl, hx, hcv, e, q⟩ := h
  obtain ⟨u1, u2, rfl, r1, r2⟩ := Vals.two r
  obtain rfl : u1 = Value.ref a := r1
  obtain rfl := hcv _ r2
  obtain ⟨od, mA, J, _, _⟩ := inst_pin I hz hf hx
  exact PySem.W.kia_one (kitx_any C) I.kIn J e (fun z => nomatch z) fun tk => ⟨.bl b, H, I.kept (t' := tk) fun _ _ z => z, rfl, q⟩
/-- e.f -/
def tXp (a D dd : Addr) (f : Str) (te : TE) : TE := fun σ H Q => te σ H fun x H1 => x = .ref a ∧ ∃ (fs : List (Str × V)) (v : V), H1 dd = some (.xd fs) ∧ fs.lookup f = some v ∧ Q v H1
theorem pe_xp {e : Expr} {te : TE} {pos : Pos} {n : Str} (T : XfC X.K D) (hno : PySem.W.findIn X.K (.ref D) n = some none) (hz : Zc (.ref D) (some dd) oe) (hf : ∃ vs, oe.data = .fields vs) (he : PE (pinned X (a, oe)) e te) (hb : attributeBase e n X.env (eval e X.env) = eval e X.env := by rfl) :
    PE (pinned X (a, oe)) (.Attribute e n pos) (tXp a D dd n te) := by
  refine ⟨fun pins s σ H Q I h => ?_⟩
  refine attr_of hb (thn (he.run pins s σ H _ I h) fun u s1 hh => ?_)
  obtain ⟨x, H1, I1, rx, ex, fs, v, ea, l, q⟩ := hh
  subst ex
  obtain rfl : u = Value.ref a := rx
  obtain ⟨od, mA, J, hr, hl⟩ := inst_pin I1 hz hf ea
  obtain ⟨u, hu, ru⟩ := RelO.some_of (v := v) (o := mA n) (by rw [← l]; exact hr n)
  exact HandSPX.exc_get I1.kIn J T.ga T.gg T.exC (PySem.W.findObj_own T.hdC hno rfl (by rw [hl, hu])) (handed_of ru) ⟨v, H1, I1.tok _, ru, q⟩
end
end PM

namespace PM
open PySem PySem.Spec PyProof.Rows L2 LamX
/-! ### x(lambda: e), x any def that calls what it is given -/
/-- TT, what the def wants; T, what it makes of the lambda's end -/
def TTok (nm : Nm) (K : Frg) (TT : (XK → Hp → VK → Prop) → Hp → VK → Prop) (T : CO → CO) : Prop := ∀ (Q : VK) (tl : XK → Hp → VK → Prop) (H G : Hp) (ρ : List Addr) (o : CO),
  (∀ (E : XK) (R : VK), pC nm K ρ G H R E o → tl E H R) → pC nm K ρ G H Q (fun _ _ _ => False) (T o) → TT tl H Q
def endC (o : Out D) : CO := match o with
  | .ok d _ M => .ok d M
  | .err k fv _ M => .err k fv M
  | .bad => .bad
theorem triedOk {nm : Nm} {K : Frg} {cn fn : Nat} {dn : Str} (hfld : ∀ h, nm.fld h = nm.fld fn → h = fn) : TTok nm K (TTtr K (nm.exc cn) (nm.fld fn) dn) (triedF cn fn dn) := by
  intro Q tl H G ρ o h1 h2
  refine h1 _ _ ?_
  cases o with
  | bad => exact h2
  | ok d M => exact fun v H' G' ρ' kp wf rv => h2 _ H' G' ρ' kp wf (.str dn)
  | err k fv M =>
    intro H' G' ρ' dx kp wf er
    cases fv with
    | none => exact h2.elim
    | some fv =>
      obtain ⟨f', d'⟩ := fv
      obtain ⟨dd, v, e1, e2, e3⟩ := er
      have e0 : triedF cn fn dn (.err k (some (f', d')) M) = if k = cn ∧ f' = fn then .ok d' M else .bad := rfl
      rw [e0] at h2
      by_cases hc : k = cn ∧ f' = fn
      · rw [if_pos hc] at h2
        obtain ⟨rfl, rfl⟩ := hc
        exact ⟨rfl, dd, _, v, e1, e2, by simp [List.lookup], h2 v H' G' ρ' kp wf e3⟩
      · rw [if_neg hc] at h2
        exact h2.elim
theorem tried_nr {cn fn : Nat} {dn : Str} : ∀ o k fv M, triedF cn fn dn o ≠ .err k fv M := by
  intro o k fv M
  unfold triedF
  split
  · intro z; cases z
  · split <;> (intro z; cases z)
  · intro z; cases z
section
variable {X : Cx} {nm : Nm} {W : WX} {fb : EF}
theorem sE_lamT {TT : (XK → Hp → VK → Prop) → Hp → VK → Prop} {T : CO → CO} (ok : TTok nm X.K TT T) (nr : ∀ o k fv M, T o ≠ .err k fv M) {x a : Str} {g c P : Addr} {k : Nat} {pg : Arguments} {sg : Scope} {dV kV doc pm cdv ct oc : Value} {an od : Option Addr} {osl : Array (Option Value)} {bg : List Stmt} {Ng : List Str}
    {params : Arguments} {body : Expr} {scope : Scope} {p lpos pos : Pos} (hg : Gl X x) (hm : X.mg x = some (.ref g)) (hk : PySem.W.keepIn X.K (.ref g) = true)
    (lk : X.K.lookup g = some ⟨oc, od, .func (PySem.W.fnOf x x pg bg sg dV kV doc pm an cdv ct), osl⟩) (hcg : PySem.W.codeIn X.K cdv x = true) (hb : L2.Binds X.K (PySem.W.fnOf x x pg bg sg dV kV doc pm an cdv ct) [a] []) (Sg : FnScope Ng [a] sg) (hNg : Ng[0]? = some a) (hva : Vis sg a)
    (hG : GivesTo X Ng x sg g cdv bg a (X.env.qual ++ "<lambda>") TT)
    (TB : TabB X.base X.mg c P) (hcode : X.env.code = .ref c) (hmT : (P, X.env.qual ++ "<lambda>") ∈ nm.T) (hu : ∀ p ∈ nm.T, p.1 = P → p.2 = X.env.qual ++ "<lambda>") (hr : Room (k + 2) X.A) (L : LamS X.env.scope scope) (hdef : defaultsOf params X.env = ([], []))
    (hbind : ∀ (q : Str) (cl : List (Str × Addr)) (pm cv ctv : Value), bindArgs (PySem.W.kla_fn "<lambda>" q params body scope cl pm cv ctv) ⟨[], []⟩ = pure [])
    (hbody : ∀ (A : Around) (outer : List Env) (s : Shared) (H : Hp) (E : XK) (f c' : Addr), Room k (A.deeper (lamEnv X scope s.heap.objs.size f c')) → PE (lamCx X A outer s H E scope f c') body (tE nm X.K (fun cls d _ H' => E cls d H') fb))
    (hdb : (x == ("__debug__" : Str)) = false) (hd : (a == ("__debug__" : Str)) = false) (hcd : (a == ("__classdict__" : Str)) = false) :
    PE X (.Call (.Name x p) [.Lambda params body scope lpos] [] pos) (tE nm X.K W (lamF T fb)) := by
  refine (pe_lamcall (T := nm.T) (t := fun E => tE nm X.K (fun cls d _ H' => E cls d H') fb) hg hm hk lk hcg hb Sg hNg hva hG TB hcode hmT hu hr L hdef hbind hbody hdb hd hcd).imp fun σ H Q ⟨fr, ρ, G, e, M, s, h⟩ => ?_
  refine ⟨s.wf.tabs, fun H1 x1 t1 => ?_⟩
  have w1 := s.wf.ext x1 t1
  have kp1 : Kp ρ G H ρ G H1 := ⟨fun _ _ h => h, fun b o e n _ => x1 b o e n, fun _ _ => rfl, Same.refl _, fun _ m => .inl m, fun b ⟨o, e, n⟩ => ⟨o, x1 b o e n, n⟩⟩
  have s1 := s.step kp1 w1
  have sb : SR nm X.K ⟨H1, G, ρ⟩ ρ G (blkE [] e) M σ H1 := s1.block []
  refine ok Q _ H1 G ρ (endC (fb (blkE [] e) M)) (fun E R hp => ?_) ?_
  · show ∃ fr ρ G e M, _
    refine ⟨_, ρ, G, blkE [] e, M, sb, ?_⟩
    cases q : fb (blkE [] e) M with
    | bad => rw [q] at hp; exact hp.elim
    | ok d e' M' =>
      rw [q] at hp
      exact fun v H' G' ρ' g' p' s' rv => hp v H' G' ρ' s'.kp s'.wf rv
    | err k' fv e' M' =>
      rw [q] at hp
      exact fun σ' H' G' ρ' dx g' p' s' er => hp H' G' ρ' dx s'.kp s'.wf er
  · have h2 : pG nm X.K fr W (gdE nm X.K fr σ Q) ρ G ((T (endC (fb (blkE [] e) M))).out e) ∨ fb (blkE [] e) M = .bad := by
      unfold lamF at h
      cases q : fb (blkE [] e) M with
      | bad => exact .inr rfl
      | ok d e' M' => rw [q] at h; exact .inl h
      | err k' fv e' M' => rw [q] at h; exact .inl h
    rcases h2 with h2 | h2
    · have nr := nr (endC (fb (blkE [] e) M))
      generalize T (endC (fb (blkE [] e) M)) = o at h2 nr ⊢
      cases o with
      | bad => exact h2
      | ok d M' => exact fun v H' G' ρ' kp wf rv => h2 v H' G' ρ' (kp.grows w1.sub) kp.pre (s1.step kp wf) rv
      | err k' fv M' => exact absurd rfl (nr k' fv M')
    · unfold lamF at h
      rw [h2] at h
      exact h.elim
end
end PM

namespace PM
open PySem PySem.Spec PyProof.Rows L2 LamX
/-- x = None; try: call() / except C as e: x = e; None where nothing came, [word, x.f] by the class -/
def TTr2 (C1 C2 : Addr) (f w1 w2 : Str) : (XK → Hp → VK → Prop) → Hp → VK → Prop := fun tl H Q => ∀ (E : XK) (R : VK), (∀ v H', Q .non H' → R v H') →
  (∀ cls d H', (∃ (D dd : Addr) (fs : List (Str × V)) (v : V) (w : Str), cls = .ref D ∧ ((D = C1 ∧ w = w1) ∨ (D = C2 ∧ w = w2)) ∧ d = some dd ∧ H' dd = some (.xd fs) ∧ fs.lookup f = some v ∧ ∀ p, H' p = none → Q (.ref p) (upd H' p (.lst [.str w, v]))) → E cls d H') → tl E H R
/-- what is known of an exception class that is caught and looked at -/
structure Xk (K : Frg) (CX D : Addr) (f : Str) : Prop where
  xf : XfC K D
  ex : ExcC K D
  no : PySem.W.findIn K (.ref D) f = some none
  one : PySem.W.exmOne K (.ref D) (.ref CX) = some true
theorem gl_len {X : Cx} {i : Nat} {x : Str} {p : Pos} (hi : X.N[i]? = some x) (hv : Vis X.env.scope x) (h1 : (x == ("__debug__" : Str)) = false) (h2 : (x == ("__classdict__" : Str)) = false) : PE X (.Name x p) (fun σ H Q => σ.length = X.N.length → tVar i σ H Q) := pe_len (pe_var hi hv h1 h2)
theorem refu2_gives {X : Cx} {x q : Str} {sg : Scope} {g CX C1 C2 : Addr} {cdg : Value} {a b e f cx c1 c2 w1 w2 w3 : Str} {j1 j2 j3 j4 j5 j6 : Nat} {p1 p2 p3 p4 p5 p6 p7 p8 p9 p10 p11 p12 p13 p14 p15 p16 p17 p18 p19 p20 p21 p22 p23 p24 p25 p26 p27 p28 p29 p30 p31 p32 p33 p34 p35 p36 p37 p38 p39 p40 : Pos}
    (hnd : [a, b, e].Nodup) (hlb : sg.names.lookup b = some .local) (hle : sg.names.lookup e = some .local) (gx : sg.names.lookup cx = some .globalImplicit) (g1 : sg.names.lookup c1 = some .globalImplicit) (g2 : sg.names.lookup c2 = some .globalImplicit) (gi : sg.names.lookup ("isinstance" : Str) = some .globalImplicit)
    (mx : X.mg cx = some (.ref CX)) (m1 : X.mg c1 = some (.ref C1)) (m2 : X.mg c2 = some (.ref C2)) (mi : X.mg "isinstance" = none) (dx : (cx == ("__debug__" : Str)) = false) (d1 : (c1 == ("__debug__" : Str)) = false) (d2 : (c2 == ("__debug__" : Str)) = false)
    (b1 : (b == ("__debug__" : Str)) = false) (b2 : (b == ("__classdict__" : Str)) = false) (e1 : (e == ("__debug__" : Str)) = false) (e2 : (e == ("__classdict__" : Str)) = false) (k1 : Xk X.K CX C1 f) (k2 : Xk X.K CX C2 f)
    (q11 : PySem.W.kitOne X.K (.ref C1) (.ref C1) = some true) (q21 : PySem.W.kitOne X.K (.ref C2) (.ref C1) = some false) (q22 : PySem.W.kitOne X.K (.ref C2) (.ref C2) = some true)
    (s1 : ∀ env, swapsWith (.Constant .none j1 p2) (some (.Name b p1)) p3.line env = pure false) (s2 : ∀ env, swapsWith (.Call (.Name a p4) [] [] p5) none p6.line env = pure false) (s3 : ∀ env, swapsWith (.Name e p9) (some (.Name b p8)) p10.line env = pure false)
    (t1 : ∀ env, attributeBase (.Name b p22) f env (eval (.Name b p22) env) = eval (.Name b p22) env) (t2 : ∀ env, attributeBase (.Name b p31) f env (eval (.Name b p31) env) = eval (.Name b p31) env) :
    GivesTo X [a, b, e] x sg g cdg [.Assign [.Name b p1] (.Constant .none j1 p2) p3, .Try [.Expr (.Call (.Name a p4) [] [] p5) p6] [.ExceptHandler (some (.Name cx p7)) (some e) [.Assign [.Name b p8] (.Name e p9) p10] p11] [] [] p12,
      .If (.Compare (.Name b p13) [.Is] [.Constant .none j2 p14] p15) [.Return (some (.Constant .none j3 p16)) p17] [] p18,
      .If (.Call (.Name "isinstance" p19) [.Name b p20, .Name c1 p21] [] p23) [.Return (some (.List [.Constant (.str w1) j4 p24, .Attribute (.Name b p22) f p25] p26)) p27] [] p28,
      .Return (some (.IfExp (.Call (.Name "isinstance" p29) [.Name b p30, .Name c2 p32] [] p33) (.List [.Constant (.str w2) j5 p34, .Attribute (.Name b p31) f p35] p36) (.List [.Constant (.str w3) j6 p37] p38) p39)) p40] a q (TTr2 C1 C2 f w1 w2) := by
  intro fl c' s H Q tl act hc h
  let Xc : Cx := (cxOf C8.CX0 X.prog X.w X.K X.mg X.base [a, b, e] x sg g cdg X.A X.stack s H C8.E0).nox
  have vb : Vis sg b := .inl hlb
  have ve : Vis sg e := .inl hle
  -- what follows, behind a catch
  have isN : ∀ {Y : Cx} {p p' p'' : Pos} {j : Nat}, Y.N = [a, b, e] → Y.env.scope = sg → PT Y (.Compare (.Name b p) [.Is] [.Constant .none j p'] p'') (tTest (tOp (fun x y H Q => y = .non ∧ Q (.bl (decide (x = .non))) H) (fun σ H Q => σ.length = 3 → tVar 1 σ H Q) (tC .non))) := fun {Y p p' p'' j} h1 h2 => by
    have q := gl_len (X := Y) (i := 1) (x := b) (p := p) (by rw [h1]; rfl) (by rw [h2]; exact vb) b1 b2
    have e : Y.N.length = 3 := by rw [h1]; rfl
    rw [e] at q
    exact pt_cmpR op_isN q pe_non rfl
  let restL : List Stmt := [.If (.Compare (.Name b p13) [.Is] [.Constant .none j2 p14] p15) [.Return (some (.Constant .none j3 p16)) p17] [] p18,
      .If (.Call (.Name "isinstance" p19) [.Name b p20, .Name c1 p21] [] p23) [.Return (some (.List [.Constant (.str w1) j4 p24, .Attribute (.Name b p22) f p25] p26)) p27] [] p28,
      .Return (some (.IfExp (.Call (.Name "isinstance" p29) [.Name b p30, .Name c2 p32] [] p33) (.List [.Constant (.str w2) j5 p34, .Attribute (.Name b p31) f p35] p36) (.List [.Constant (.str w3) j6 p37] p38) p39)) p40]
  refine ⟨_, pss_cons (ps_set (X := Xc) (i := 1) (x := b) hnd rfl (.inl hlb) pe_non (s1 _) (.inr hlb)) (pss_try_keep (X := Xc) (i := 2) (n := e) (c := .ref CX) (rest := restL)
      (tb := fun W D σ H => ∃ Ech : XK, (∀ cls d σ' H', Ech cls d H' → W cls d σ' H') ∧ σ[0]? = some (some (.ref fl)) ∧ H c' = some (CodeO c' q) ∧ tl Ech H fun v H' => D.nx σ H')
      (ts := fun a' cls d => tAsg (fun σ H Q => σ.length = 3 → tVar 2 σ H Q) (gName 1))
      (tr := fun a' cls d D σ H => ∃ t : TS, (∀ oe, Zc cls d oe → (∃ vs, oe.data = .fields vs) → PSs (pinned Xc (a', oe)) restL t) ∧ t D σ H)
      rfl rfl (show [a, b, e].Nodup from hnd) rfl hle ⟨gx, dx, .inl mx⟩ LamX.takes0 (fun W pn xe tk _ => ?_) (fun a' oe cls d pn hz hf => ?_) (fun a' oe cls d hz hf => ⟨fun pins s σ H D I ⟨t, ht, h⟩ => (ht oe hz hf).run pins s σ H D I h⟩)
      (pss_cons (ps_if (isN rfl rfl) (pss_one (ps_ret pe_non)) pss_nil) pss_never)), ?_⟩
  · refine ⟨fun pins s' σ H' D I h' => ?_⟩
    obtain ⟨Ech, hW, h1, h2, h3⟩ := h'
    have hp := act W pn xe Ech p4 p5 tk hW
    have hq := pss_one (ps_expr (pos := p6) hp (s2 _))
    exact hq.run pins s' σ H' D I ⟨h1, h2, h3⟩
  · exact pss_one (ps_set (i := 1) (x := b) hnd rfl (.inl hlb) (pe_len (pe_var (i := 2) rfl ve e1 e2)) (s3 _) (.inr hlb))
  · refine ⟨fun cls d H' => ∃ (D dd : Addr) (fs : List (Str × V)) (v : V) (w : Str), cls = .ref D ∧ ((D = C1 ∧ w = w1) ∨ (D = C2 ∧ w = w2)) ∧ d = some dd ∧ H' dd = some (.xd fs) ∧ fs.lookup f = some v ∧ ∀ p, H' p = none → Q (.ref p) (upd H' p (.lst [.str w, v])), fun cls d σ' H' hE => ?_, rfl, hc, h _ _ (fun v H' hQ => ?_) fun _ _ _ z => z⟩
    rotate_left
    · exact fun _ => ⟨.non, rfl, rfl, true, rfl, hQ⟩
    obtain ⟨D, dd, fs, v, w, rfl, hw, rfl, hx, hl, hq⟩ := hE
    have kD : Xk X.K CX D f := by rcases hw with ⟨rfl, _⟩ | ⟨rfl, _⟩ <;> assumption
    refine ⟨true, kD.one, fun _ a' ha' hl2 => ⟨.ref a', ?_, ?_⟩, fun z => by cases z⟩
    · rw [List.getElem?_set_self]
      rw [List.length_set] at hl2
      omega
    have sl : ∀ n : σ'.length = 3, (((σ'.set 2 (some (V.ref a'))).set 1 (some (V.ref a'))).set 2 none)[1]? = some (some (.ref a')) := fun n => by
      rw [List.getElem?_set_ne (by decide), List.getElem?_set_self (by rw [List.length_set]; omega)]
    have l3 : ∀ {n : Nat}, (((σ'.set 2 (some (V.ref a'))).set 1 (some (V.ref a'))).set 2 none).length = n → σ'.length = n := fun n => by simpa using n
    have tst : ∀ {oe : Obj} {p p' p'' p4 : Pos} {c : Str} {C : Addr}, Zc (.ref D) (some dd) oe → (∃ vs, oe.data = .fields vs) → sg.names.lookup c = some .globalImplicit → X.mg c = some (.ref C) → (c == ("__debug__" : Str)) = false →
        PT (pinned Xc (a', oe)) (.Call (.Name "isinstance" p) [.Name b p', .Name c p''] [] p4) (tB (tCB (rIsP X.K D a' dd) (tCons (fun σ H Q => σ.length = 3 → tVar 1 σ H Q) (tCons (tC (.ref C)) tNil)))) := fun {oe p p' p'' p4 c C} hz hf hg hm hd =>
      pt_val (pe_callB (call_isP kD.ex hz hf) (show Gl (pinned Xc (a', oe)) "isinstance" from gi) mi rfl (pa_cons (gl_len (X := pinned Xc (a', oe)) rfl vb b1 b2) (pa_cons (pe_glob (X := pinned Xc (a', oe)) hg hm (show L2.RelV (.ref C) (.ref C) from rfl) hd) pa_nil)))
    have fld : ∀ {oe : Obj} {p p' : Pos}, (∀ env, attributeBase (.Name b p) f env (eval (.Name b p) env) = eval (.Name b p) env) → Zc (.ref D) (some dd) oe → (∃ vs, oe.data = .fields vs) → PE (pinned Xc (a', oe)) (.Attribute (.Name b p) f p') (tXp a' D dd f (fun σ H Q => σ.length = 3 → tVar 1 σ H Q)) := fun ht hz hf =>
      pe_xp kD.xf kD.no hz hf (gl_len (X := pinned Xc (a', _)) rfl vb b1 b2) (ht _)
    refine ⟨_, fun oe hz hf => pss_cons (ps_if (isN (Y := pinned Xc (a', oe)) rfl rfl) (pss_one (ps_ret pe_non)) pss_nil)
      (pss_cons (ps_if (tst hz hf g1 m1 d1) (pss_one (ps_ret (pe_lst (pa_cons pe_str (pa_cons (fld t1 hz hf) pa_nil))))) pss_nil)
        (pss_one (ps_ret (pe_ifExp (tst hz hf g2 m2 d2) (pe_lst (pa_cons pe_str (pa_cons (fld t2 hz hf) pa_nil))) (pe_lst (pa_cons pe_str pa_nil)))))), ?_⟩
    refine fun n => ⟨.ref a', sl (l3 n), rfl, false, rfl, ?_⟩
    refine fun n => ⟨.ref a', sl (l3 n), ?_⟩
    have one : ∀ u, L2.RelV (.ref C1) u → u = Value.ref C1 := fun u r => r
    have two : ∀ u, L2.RelV (.ref C2) u → u = Value.ref C2 := fun u r => r
    rcases hw with ⟨rfl, rfl⟩ | ⟨rfl, rfl⟩
    · refine ⟨.ref D, .ref D, true, fs, rfl, hx, one, q11, true, rfl, ?_⟩
      exact fun n => ⟨.ref a', sl (l3 n), rfl, fs, v, hx, hl, by simp [sizeLine], fun p hp => hq p hp⟩
    · refine ⟨.ref C1, .ref C1, false, fs, rfl, hx, one, q21, false, rfl, ?_⟩
      refine fun n => ⟨.ref a', sl (l3 n), ?_⟩
      refine ⟨.ref D, .ref D, true, fs, rfl, hx, two, q22, true, rfl, ?_⟩
      exact fun n => ⟨.ref a', sl (l3 n), rfl, fs, v, hx, hl, by simp [sizeLine], fun p hp => hq p hp⟩
end PM

namespace PM
open PySem PySem.Spec PyProof.Rows L2 LamX
/-- None where nothing came, [word, what the exception keeps] by its class -/
def refuF (k1 k2 f : Nat) (w1 w2 : Str) : CO → CO
  | .ok _ M => .ok .non M
  | .err k (some (g, d)) M => if g = f then (if k = k1 then .ok (.lst [.str w1, d]) M else if k = k2 then .ok (.lst [.str w2, d]) M else .bad) else .bad
  | _ => .bad
theorem refu_nr {k1 k2 f : Nat} {w1 w2 : Str} : ∀ o k fv M, refuF k1 k2 f w1 w2 o ≠ .err k fv M := by
  intro o k fv M
  unfold refuF
  split
  · intro z; cases z
  · split
    · split
      · intro z; cases z
      · split <;> (intro z; cases z)
    · intro z; cases z
  · intro z; cases z
theorem refuOk {nm : Nm} {K : Frg} {k1 k2 f : Nat} {w1 w2 : Str} : TTok nm K (TTr2 (nm.exc k1) (nm.exc k2) (nm.fld f) w1 w2) (refuF k1 k2 f w1 w2) := by
  intro Q tl H G ρ o h1 h2 E R hR hE
  refine h1 E R ?_
  cases o with
  | bad => exact h2
  | ok d M => exact fun v H' G' ρ' kp wf rv => hR _ _ (h2 _ H' G' ρ' kp wf .non)
  | err k fv M =>
    intro H' G' ρ' dx kp wf er
    cases fv with
    | none => exact h2.elim
    | some fv =>
      obtain ⟨g, d⟩ := fv
      obtain ⟨dd, v, e1, e2, e3⟩ := er
      have e0 : refuF k1 k2 f w1 w2 (.err k (some (g, d)) M) = if g = f then (if k = k1 then .ok (.lst [.str w1, d]) M else if k = k2 then .ok (.lst [.str w2, d]) M else .bad) else .bad := rfl
      rw [e0] at h2
      by_cases hg : g = f
      · rw [if_pos hg] at h2
        subst hg
        have fin : ∀ w : Str, pC nm K ρ G H Q (fun _ _ _ => False) (.ok (.lst [.str w, d]) M) → ∀ p, H' p = none → Q (.ref p) (upd H' p (.lst [.str w, v])) := fun w h p hp =>
          h _ _ (upd G' p (.lst [.str w, v])) ρ' (kp.trans (Kp.alloc wf hp _)) (wf.alloc hp _) (.lst upd_same (.cons (.str w) (.cons (e3.mono (Same.upd (wf.none_of hp)) (Pre.refl _)) .nil)))
        by_cases h11 : k = k1
        · rw [if_pos h11] at h2
          subst h11
          exact hE _ _ _ ⟨_, dd, _, v, w1, rfl, .inl ⟨rfl, rfl⟩, e1, e2, by simp [List.lookup], fin w1 h2⟩
        · rw [if_neg h11] at h2
          by_cases h12 : k = k2
          · rw [if_pos h12] at h2
            subst h12
            exact hE _ _ _ ⟨_, dd, _, v, w2, rfl, .inr ⟨rfl, rfl⟩, e1, e2, by simp [List.lookup], fin w2 h2⟩
          · rw [if_neg h12] at h2
            exact h2.elim
      · rw [if_neg hg] at h2
        exact h2.elim
def eLaT (T : CO → CO) (b : EF) : EF := lamF T b
/-- a def of the module that calls what it is given -/
structure LdT (P : Program) (w : World) (K : Frg) (mg : Str → Option Value) (base : Heap) (nm : Nm) (x : Str) (T : CO → CO) : Prop where
  ex : ∃ (g : Addr) (fd : FuncData) (pg : Arguments) (bg : List Stmt) (sg : Scope) (Ng : List Str) (a : Str) (TT : (XK → Hp → VK → Prop) → Hp → VK → Prop), FunD K x x pg bg sg [] [] g fd ∧ mg x = some (.ref g) ∧ Binds K fd [a] [] ∧ FnScope Ng [a] sg ∧ Ng[0]? = some a ∧ Vis sg a ∧ (a == ("__debug__" : Str)) = false ∧ (a == ("__classdict__" : Str)) = false ∧
    (∀ (X : Cx) (cdv : Value) (q : Str), X.K = K → X.mg = mg → GivesTo X Ng x sg g cdv bg a q TT) ∧ TTok nm K TT T
  nr : ∀ o k fv M, T o ≠ .err k fv M
section
variable {gd : Bool} {X : Cx} {nm : Nm} {W : WX} {k : Nat} {fb : EF}
theorem wLaT {T : CO → CO} {x q : Str} {j : Nat} {c P : Addr} {params : Arguments} {body : Expr} {scope : Scope} {p lpos pos : Pos} (cc : Cc gd X W k) (L : LdT X.prog X.w X.K X.mg X.base nm x T) (LC : LamC X.base X.mg nm q c P)
    (hbody : ∀ (A : Around) (outer : List Env) (s : Shared) (H : Hp) (E : XK) (f c' : Addr), Cc false (lamCx X A outer s H E scope f c') (fun cls d _ H' => E cls d H') j → PE (lamCx X A outer s H E scope f c') body (tE nm X.K (fun cls d _ H' => E cls d H') fb))
    (hj : j + 2 ≤ k := by decide) (hg : Gl X x := by rfl) (hcode : X.env.code = .ref c := by rfl) (hq : X.env.qual ++ "<lambda>" = q := by rfl) (hS : LamS X.env.scope scope := by exact LamX.lamS_by (by kernel_rfl)) (hdef : defaultsOf params X.env = ([], []) := by rfl)
    (hbind : ∀ (q : Str) (cl : List (Str × Addr)) (pm cv ctv : Value), bindArgs (PySem.W.kla_fn "<lambda>" q params body scope cl pm cv ctv) ⟨[], []⟩ = pure [] := by intros; rfl) (hdb : (x == ("__debug__" : Str)) = false := by decide) :
    PE X (.Call (.Name x p) [.Lambda params body scope lpos] [] pos) (tE nm X.K W (eLaT T fb)) := by
  subst hq
  obtain ⟨g, fd, pg, bg, sg, Ng, a, TT, F, hm, hb, Sg, hNg, hva, d1, d2, hG, ok⟩ := L.ex
  obtain ⟨oc, od, dV, kV, doc, pm, an, cdv, ct, osl, e, lk, hcd, _, _⟩ := F.ex
  subst e
  exact sE_lamT ok L.nr hg hm F.kp lk hcd hb Sg hNg hva (hG X cdv _ rfl rfl) LC.tb hcode LC.hm LC.hu (cc.hr.mono hj) hS hdef hbind (fun A outer s H E f c' hr => hbody A outer s H E f c' (cc.lam A outer s H E scope f c' hr)) hdb d1 d2
/-- a def that is never reached: it promises nothing -/
def F_bad : CF := fun _ _ => .bad
def eBad : EF := fun _ _ => .bad
theorem wBad {e : Expr} : PE X e (tE nm X.K W eBad) := ⟨fun pins s σ H Q I ⟨fr, ρ, G, e, M, r, h⟩ => h.elim⟩
def sBad : SF := fun _ _ => .bad
theorem wsBad {st : Stmt} : PS X st (tS nm X.K W sBad) := ⟨fun pins s σ H D I ⟨fr, ρ, G, e, M, r, h⟩ => h.elim⟩
theorem wsBads {ss : List Stmt} : PSs X ss (tS nm X.K W sBad) := ⟨fun pins s σ H D I ⟨fr, ρ, G, e, M, r, h⟩ => h.elim⟩
end
section
variable {gd : Bool} {P : Program} {w : World} {K : Frg} {mg : Str → Option Value} {base : Heap} {nm : Nm} {cn k n : Nat} {x qual : Str} {params : Arguments} {body : List Stmt} {scope : Scope} {f : Addr} {fd : FuncData} {ps : List Str}
theorem fng_bad (h : n = ps.length) : FnG gd P w K mg base k f fd ps (spD nm K n F_bad) :=
  ⟨fun vs H Q E h2 => h ▸ h2.1, fun A outer s H args us vs Q E hr _ e0 hb r ⟨_, _, _, _, _, _, _, z⟩ => z.elim⟩
theorem df_bad (F : FunD K x qual params body scope [] [] f fd) (hm : mg x = some (.ref f)) (hb : Binds K fd ps []) (h : n = ps.length) : Df gd P w K mg base nm x k n F_bad := ⟨⟨f, fd, ps, fng_bad h, hb, hm, F.kp⟩, fun _ _ _ => rfl⟩
theorem dm_bad (F : FunD K x qual params body scope [] [] f fd) (hm : Meth K (nm.cls cn) x f) (hb : Binds K fd ps []) (h : n = ps.length) : Dm gd P w K mg base nm cn x k n F_bad := ⟨⟨f, fd, ps, fng_bad h, hb, hm⟩, fun _ _ _ => rfl⟩
end
end PM

namespace PM
open PySem PySem.Spec PyProof.Rows L2 LamX
/-! ### try in a def -/
/-- the clauses are never looked at -/
def sThru (b : SF) : SF := fun e M => noErr (b e M)
/-- except C: without a name -/
def sTryO (cn : Nat) (b s : SF) : SF := fun e M => match b e M with
  | .err k _ e' M' => if k = cn then noErr (s e' M') else .bad
  | o => o
section
variable {gd : Bool} {X : Cx} {nm : Nm} {W : WX} {k : Nat} {pos : Pos} {fb fs : SF} {body : List Stmt}
theorem noErr_pG {α : Type} {K : Frg} {fr : Fr} {W W' : WX} {g : Gd α} {ρ : List Addr} {G : Hp} : ∀ {o : Out α}, pG nm K fr W g ρ G (noErr o) → pG nm K fr W' g ρ G o
  | .ok _ _ _, h => h
  | .err _ _ _ _, h => h.elim
  | .bad, h => h
theorem Cc.nox (cc : Cc gd X W k) : Cc gd X.nox WF0 k := ⟨⟨cc.gx.nd, cc.gx.calm, cc.gx.hu⟩, cc.hr, takesF, cc.hg⟩
theorem wsThru {h₀ : ExceptHandler} {hs : List ExceptHandler} (hb : PSs X.nox body (tS nm X.K WF0 fb)) : PS X (.Try body (h₀ :: hs) [] [] pos) (tS nm X.K W (sThru fb)) :=
  (ps_try_thru0 hb).imp fun D σ H ⟨fr, ρ, G, e, M, s, h⟩ => ⟨fr, ρ, G, e, M, s, noErr_pG h⟩
theorem wsTryO {cn : Nat} {x : Str} {np pos' : Pos} {b₀ : Stmt} {suite : List Stmt} (cc : Cc gd X W k) (hm : X.mg x = some (.ref (nm.exc cn))) (h1 : PySem.W.exmOne X.K (.ref (nm.exc cn)) (.ref (nm.exc cn)) = some true)
    (hb : ∀ (W' : WX) (pn : List (Addr × Obj)) (xe : Value → Shared → Prop), Cc gd (X.tr pn xe) W' k → PSs (X.tr pn xe) body (tS nm X.K W' fb)) (hsu : ∀ (a : Addr) (pn : List (Addr × Obj)), PSs (X.suite a pn) (b₀ :: suite) (tS nm X.K WF0 fs))
    (hs : X.stack = X.env :: X.outer := by rfl) (hf : X.env.frame = some X.env.locals := by rfl) (hg : Gl X x := by rfl) (hdb : (x == ("__debug__" : Str)) = false := by decide) :
    PS X (.Try body [.ExceptHandler (some (.Name x np)) none (b₀ :: suite) pos'] [] [] pos) (tS nm X.K W (sTryO cn fb fs)) := by
  refine (ps_try_only (c := .ref (nm.exc cn)) (tb := fun W' => tS nm X.K W' fb) (ts := fun _ _ _ => tS nm X.K WF0 fs) hs hf ⟨hg, hdb, .inl hm⟩ cc.tk (fun W' pn xe tk _ => hb W' pn xe ⟨⟨cc.gx.nd, cc.gx.calm, cc.gx.hu⟩, cc.hr, tk, cc.hg⟩) (fun a oe cls d pn _ _ => hsu a _)).imp fun D σ H ⟨fr, ρ, G, e, M, s, h⟩ => ⟨fr, ρ, G, e, M, s, ?_⟩
  unfold sTryO at h
  cases q : fb e M with
  | bad => rw [q] at h; exact h
  | ok fl e' M' => rw [q] at h; exact h
  | err c fv e' M' =>
    rw [q] at h
    have h' : pG nm X.K fr W (gdS nm X.K fr D) ρ G (if c = cn then noErr (fs e' M') else .bad) := h
    clear h
    by_cases hc : c = cn
    · rw [if_pos hc] at h'
      subst hc
      exact fun σ' H' G' ρ' dx g p s' er => ⟨true, h1, fun _ a _ => ⟨fr, ρ', G', e', M', s', pG.mono gdS_mono g p (noErr_pG h')⟩, fun z => by cases z⟩
    · rw [if_neg hc] at h'; exact h'.elim
/-! ### raise C(), C without an own __init__ -/
theorem pmk_own0 {C : Addr} {bmB : List Value} {B newId initId : String} {x : Str} {p pos : Pos} (F : ExcBaseFacts B newId initId bmB) (q : PySem.W.excIn X.K C bmB newId = true) (gC : X.mg x = some (.ref C)) (kC : PySem.W.keepIn X.K (.ref C) = true) (r : Raises X (.ref C)) (hg : Gl X x)
    (hdb : (x == ("__debug__" : Str)) = false := by decide) : PMk X (.Call (.Name x p) [] [] pos) (fun _ H Q => Q (.ref C) none H) := by
  intro pins s σ H Q I h
  refine wpAny_Call_Name_kw (ld_glob I hg gC ?_ hdb)
  refine PySem.W.callWith_K0 I.kIn kC ?_
  obtain ⟨bm, N, nm, qn, bs, hdct, sn, sub, ab, col, dd, k0, k1, k2, k3, k5, mN, hC, hN, hni, T⟩ := exc_obj I.kIn q
  refine wpAny_call_exc_subT F T hC hN hni (fun h' e hm => ?_) (by show 0 ≤ sizeLine; exact Nat.zero_le _)
  exact mk_of I hm r h (I.hok.gone hm.new)
/-- an exception class of the module without an own __init__ -/
structure Eo (K : Frg) (mg : Str → Option Value) (nm : Nm) (x : Str) (cn : Nat) : Prop where
  hm : mg x = some (.ref (nm.exc cn))
  kp : PySem.W.keepIn K (.ref (nm.exc cn)) = true
  ex : ∃ bmB newId initId, ExcBaseFacts "ValueError" newId initId bmB ∧ PySem.W.excIn K (nm.exc cn) bmB newId = true
  sb : PySem.W.subIn K (.ref (nm.exc cn)) (.type "BaseException") = some true
  ty : PySem.W.typeIn K (.ref (nm.exc cn)) = some (.type "type")
def sRa0 (cn : Nat) : SF := fun e M => .err cn none e M
theorem wsRa0 {cn : Nat} {x : Str} {p pc : Pos} (cc : Cc gd X W k) (T : Eo X.K X.mg nm x cn) (hg : Gl X x := by rfl) (hdb : (x == ("__debug__" : Str)) = false := by decide) : PS X (.Raise (some (.Call (.Name x p) [] [] pc)) none pos) (tS nm X.K W (sRa0 cn)) := by
  obtain ⟨bmB, nI, iI, F, q⟩ := T.ex
  refine (ps_raise cc.gx.calm cc.tk (pmk_own0 F q T.hm T.kp (raises_own T.sb T.ty) hg hdb)).imp fun E σ H ⟨fr, ρ, G, e, M, s, h⟩ => ?_
  exact h σ H G ρ none (Same.refl _) (Pre.refl _) s rfl
end
end PM

namespace PM
open PySem PySem.Spec PyProof.Rows L2 LamX
/-! ### texts -/
/-- the signs of a text -/
def iSs (a : EF) : AF := fun e M => (a e M).bind fun d e M => match d with | .str x => .ok (x.cps.toList.map fun c => .str ⟨#[c]⟩) e M | _ => .bad
def eXs (a b : EF) : EF := fun e M => (a e M).bind fun x e M => (b e M).bind fun y e M => match x, y with | .str z, .int i => if z.length ≤ lim then lift ((atI z.cps.toList i).map fun c => .str ⟨#[c]⟩) e M else .bad | _, _ => .bad
def eSs (a : EF) (l h : OF) : EF := fun e M => (a e M).bind fun x e M => (l e M).bind fun l e M => (h e M).bind fun h e M => match x with | .str z => if z.length ≤ lim then .ok (.str (cutS z l h)) e M else .bad | _ => .bad
def mulS : D → D → Option D
  | .str x, .int n => if decide (1 ≤ n) && decide (n ≤ 1000) && decide (x.length ≤ 1000) then some (.str (if (n == 1 || x.length == 0) = true then x else ⟨(List.replicate n.toNat x.cps).foldl (· ++ ·) #[]⟩)) else none
  | _, _ => none
def eMs (a b : EF) : EF := fun e M => (a e M).bind fun x e M => (b e M).bind fun y e M => lift (mulS x y) e M
def sindexB : D → List D → Option D
  | .str a, [.str b] => match Builtin.Str.occurrences a b 0 a.length 1 with
    | i :: _ => some (.int (i : Nat))
    | [] => none
  | _, _ => none
def eEq0 (a : EF) : EF := fun e M => (a e M).bind fun x e M => match x with
  | .ref j => match M[j]? with
    | some (.lst xs) => if isDatas xs && decide (deps xs ≤ 60) then .ok (.bl xs.isEmpty) e M else .bad
    | _ => .bad
  | _ => .bad
def eMp (a : EF) : EF := fun e M => (a e M).bind fun x e M => mpopF x e M
def eDs (kvs : List (Int × Str)) (b : EF) : EF := fun e M => (b e M).bind fun d e M => match d with | .int z => lift ((kvs.lookup z).map .str) e M | _ => .bad
section
variable {gd : Bool} {X : Cx} {nm : Nm} {W : WX} {k : Nat} {pos p2 : Pos} {a b c : Expr} {es : List Expr} {fa fb : EF} {ga gb : AF}
theorem walkD_str {K : Frg} {ρ : List Addr} {G : Hp} {x : Str} : WalkD (Its x) K ρ G (x.cps.toList.map fun c => .str ⟨#[c]⟩) where
  go := fun i H hi _ => by show i < x.cps.size; simpa using hi
  stop := fun H _ => by show x.cps.size ≤ _; simp
  yld := fun i H v H' d hd s y ρ1 G1 g1 gh p => by
    obtain ⟨rfl, c, hc, rfl⟩ := y
    refine ⟨G1, .refl _ _, ?_⟩
    rw [List.getElem?_map, Array.getElem?_toList, hc] at hd
    cases hd
    exact .str _
theorem wiSs {tgx : Expr} (ha : PE X a (tE nm X.K W fa)) : PI X tgx a (tI nm X.K W (iSs fa)) := by
  refine (pi_str ha).imp fun σ H R ⟨fr, ρ, G, e, M, s, h⟩ => ?_
  refine tE.bind gdI_mono s h fun ρ1 G1 e1 M1 d v H1 g1 p1 s1 r1 h1 => ?_
  cases r1 with
  | str x => exact ⟨x, rfl, h1 _ H1 G1 ρ1 (Same.refl _) (Pre.refl _) s1 walkD_str⟩
  | _ => exact h1.elim
theorem wXs (ha : PE X a (tE nm X.K W fa)) (hb : PE X b (tE nm X.K W fb)) (hp : PlainIx b := by intro _ _; rfl) : PE X (.Subscript a b pos) (tE nm X.K W (eXs fa fb)) := by
  refine (pe_ix ix_str ha hb hp).imp fun σ H Q ⟨fr, ρ, G, e, M, s, h⟩ => ?_
  refine tE.bind gdE_mono s h fun ρ1 G1 e1 M1 d1 v1 H1 g1 p1 s1 r1 h1 => ?_
  refine tE.bind gdE_mono s1 h1 fun ρ2 G2 e2 M2 d2 v2 H2 g2 p2 s2 r2 h2 => ?_
  cases r1 with
  | str z =>
    cases r2 with
    | int i =>
      simp only at h2
      split at h2
      · rename_i hz
        cases q : atI z.cps.toList i with
        | none => rw [q] at h2; exact h2.elim
        | some c =>
          rw [q] at h2
          exact ⟨z, i, c, rfl, rfl, Nat.le_trans hz (by decide), q, h2 _ H2 G2 ρ2 (Same.refl _) (Pre.refl _) s2 (.str _)⟩
      · exact h2.elim
    | _ => exact h2.elim
  | _ => cases r2 <;> exact h2.elim
theorem wSs {lo hi : Option Expr} {fl fh : OF} (ha : PE X a (tE nm X.K W fa)) (hl : PO X lo (tOp' nm X.K W fl)) (hh : PO X hi (tOp' nm X.K W fh)) : PE X (.Subscript a (.Slice lo hi none p2) pos) (tE nm X.K W (eSs fa fl fh)) := by
  refine (pe_slice sl_str ha hl hh).imp fun σ H Q ⟨fr, ρ, G, e, M, s, h⟩ => ?_
  refine tE.bind gdE_mono s h fun ρ1 G1 e1 M1 d1 v1 H1 g1 p1 s1 r1 h1 => ?_
  refine tO.bind gdE_mono s1 h1 fun ρ2 G2 e2 M2 l H2 g2 p2 s2 h2 => ?_
  refine tO.bind gdE_mono s2 h2 fun ρ3 G3 e3 M3 u H3 g3 p3 s3 h3 => ?_
  cases r1 with
  | str z =>
    simp only at h3
    split at h3
    · rename_i hz
      exact ⟨z, rfl, Nat.le_trans hz (by decide), h3 _ H3 G3 ρ3 (Same.refl _) (Pre.refl _) s3 (.str _)⟩
    · exact h3.elim
  | _ => exact h3.elim
theorem rep_size {α : Type} (a : Array α) : ∀ (n : Nat) (acc : Array α), ((List.replicate n a).foldl (· ++ ·) acc).size = acc.size + n * a.size
  | 0, acc => by simp
  | n + 1, acc => by
    rw [List.replicate_succ, List.foldl_cons, rep_size a n, Array.size_append, Nat.add_mul]; omega
theorem op_mulS : OpR X (binaryOp .Mult) (fun x y H Q => ∃ (z : Str) (n : Int), x = .str z ∧ y = .int n ∧ 1 ≤ n ∧ n ≤ 1000 ∧ z.length ≤ 1000 ∧ Q (.str (if (n == 1 || z.length == 0) = true then z else ⟨(List.replicate n.toNat z.cps).foldl (· ++ ·) #[]⟩)) H) := by
  intro pins s σ H x y v u Q I rx ry h
  obtain ⟨z, n, rfl, rfl, h1, h2, h3, q⟩ := h
  obtain ⟨t, rfl⟩ := rx
  obtain ⟨t', rfl⟩ := ry
  refine PySem.P.mul_str ?_ ?_ ?_ ?_
  · have a1 : ¬ n < -(2 ^ 63 : Int) := by omega
    have a2 : ¬ n ≥ 2 ^ 63 := by omega
    rw [decide_eq_false a1, decide_eq_false a2]; rfl
  · intro _ _
    have : (1000 : Int) ≤ (2 ^ 63 - 1) / n := by
      rw [Int.le_ediv_iff_mul_le (by omega)]
      omega
    omega
  · intro _ _
    have e1 : z.length * n.toNat ≤ 1000 * 1000 := Nat.mul_le_mul h3 (by omega)
    show decide (z.length * n.toNat > sizeLine) = false
    exact decide_eq_false (by rw [sizeLine_eq]; omega)
  · rw [if_neg (by omega)]
    by_cases hc : (n == 1 || z.length == 0) = true
    · rw [if_pos hc] at q ⊢
      exact ⟨.str z, H, I, ⟨t, rfl⟩, q⟩
    · rw [if_neg hc] at q ⊢
      refine ⟨?_, .str _, H, I.tok _, ⟨_, rfl⟩, q⟩
      show ((List.replicate n.toNat z.cps).foldl (· ++ ·) #[]).size ≤ sizeLine
      rw [rep_size]
      have e1 : n.toNat * z.cps.size ≤ 1000 * 1000 := Nat.mul_le_mul (by omega) h3
      rw [sizeLine_eq]; simp; omega
theorem wMs (ha : PE X a (tE nm X.K W fa)) (hb : PE X b (tE nm X.K W fb)) : PE X (.BinOp a .Mult b pos) (tE nm X.K W (eMs fa fb)) := by
  refine (pe_op op_mulS ha hb).imp fun σ H Q ⟨fr, ρ, G, e, M, s, h⟩ => ?_
  refine tE.bind gdE_mono s h fun ρ1 G1 e1 M1 d1 v1 H1 g1 p1 s1 r1 h1 => ?_
  refine tE.bind gdE_mono s1 h1 fun ρ2 G2 e2 M2 d2 v2 H2 g2 p2 s2 r2 h2 => ?_
  cases q : mulS d1 d2 with
  | none => rw [q] at h2; exact h2.elim
  | some d =>
    rw [q] at h2
    unfold mulS at q
    split at q
    · rename_i x n
      rw [Option.ite_none_right_eq_some] at q
      obtain ⟨hc, q⟩ := q
      cases q
      simp only [Bool.and_eq_true, decide_eq_true_eq] at hc
      cases r1; cases r2
      exact ⟨x, n, rfl, rfl, hc.1.1, hc.1.2, hc.2, h2 _ H2 G2 ρ2 (Same.refl _) (Pre.refl _) s2 (.str _)⟩
    · cases q
theorem m_sindex : MtR X "str.index" (rMt X.K sindexB) := MtR.imp mt_sindex fun x xs H Q ⟨ρ, G, a, ds, d, hs, ra, r, h, q⟩ => by
  unfold sindexB at h
  split at h
  · rename_i a b
    obtain ⟨v, rfl, rd⟩ := r.one
    cases ra; cases rd
    split at h
    · rename_i i rest ho
      cases h
      exact ⟨a, b, i, rest, rfl, rfl, ho, q.sc (.int _)⟩
    · cases h
  · cases h
theorem wSindex {o e : Expr} {fo : EF} {apos : Pos} (ho : PE X o (tE nm X.K W fo)) (ha : PA X (e :: es) (tA nm X.K W ga)) (hbase : attributeBase o "index" X.env (eval o X.env) = eval o X.env := by rfl)
    (hfew : ((backTo pos (starEach (e :: es) X.env)).all (fun x => !x.1) && (backToKw pos (keywordEach [] X.env)).all (fun x => x.1.isSome) && decide ((e :: es).length + ([] : List Keyword).length + (if ([] : List Keyword).isEmpty then 0 else 1) < 30)) = true := by rfl)
    (hline : (apos.endLine == pos.line) = true := by rfl) (hs : starEach (e :: es) X.env = (false, eval e X.env) :: starEach es X.env := by rfl) (hplain : (backTo pos (starEach es X.env)).any (·.1) = false := by rfl) :
    PE X (.Call (.Attribute o "index" apos) (e :: es) [] pos) (tE nm X.K W (eMt .sindex sindexB fo ga)) :=
  sE_mt PySem.F.plainAttrs_str PySem.F.slot_str_index PySem.F.type_str_index m_sindex (fun d h => by cases d <;> simp [rcvB] at h; rfl) ho ha hbase hfew hline hs hplain
theorem wSplit {o e : Expr} {fo : EF} {apos : Pos} (ho : PE X o (tE nm X.K W fo)) (ha : PA X (e :: es) (tA nm X.K W ga)) (hbase : attributeBase o "split" X.env (eval o X.env) = eval o X.env := by rfl)
    (hfew : ((backTo pos (starEach (e :: es) X.env)).all (fun x => !x.1) && (backToKw pos (keywordEach [] X.env)).all (fun x => x.1.isSome) && decide ((e :: es).length + ([] : List Keyword).length + (if ([] : List Keyword).isEmpty then 0 else 1) < 30)) = true := by rfl)
    (hline : (apos.endLine == pos.line) = true := by rfl) (hs : starEach (e :: es) X.env = (false, eval e X.env) :: starEach es X.env := by rfl) (hplain : (backTo pos (starEach es X.env)).any (·.1) = false := by rfl) :
    PE X (.Call (.Attribute o "split" apos) (e :: es) [] pos) (tE nm X.K W (eMt .split splitB fo ga)) :=
  sE_mt PySem.F.plainAttrs_str PySem.F.slot_str_split PySem.F.type_str_split m_split (fun d h => by cases d <;> simp [rcvB] at h; rfl) ho ha hbase hfew hline hs hplain
theorem wMp {o : Expr} {fo : EF} {apos : Pos} (ho : PE X o (tE nm X.K W fo)) (hbase : attributeBase o "pop" X.env (eval o X.env) = eval o X.env := by rfl) (hline : (apos.endLine == pos.line) = true := by rfl) :
    PE X (.Call (.Attribute o "pop" apos) [] [] pos) (tE nm X.K W (eMp fo)) := sE_mpop ho hbase hline
/-- x == [], x a list of the store -/
theorem wEq0 (cc : Cc gd X W k) {p3 : Pos} (ha : PE X a (tE nm X.K W fa)) (hm : behindInMarks .Eq (.List [] p3) = false := by rfl) : PE X (.Compare a [.Eq] [.List [] p3] pos) (tE nm X.K W (eEq0 fa)) := by
  have hu := cc.gx.hu
  refine (pe_cmpR (op_eqD (by omega)) ha (pe_lst pa_nil) hm).imp fun σ H Q ⟨fr, ρ, G, e, M, s, h⟩ => ?_
  refine tE.bind gdE_mono s h fun ρ1 G1 e1 M1 d v H1 g1 p1 s1 r1 h1 => ⟨Nat.zero_le _, fun p hp => ?_⟩
  cases r1 with
  | @ref q j ej =>
    simp only at h1
    cases hj : M1[j]? with
    | none => rw [hj] at h1; exact h1.elim
    | some m =>
      rw [hj] at h1
      cases m with
      | lst xs =>
        simp only at h1
        split at h1
        · rename_i hc
          simp only [Bool.and_eq_true, decide_eq_true_eq] at hc
          obtain ⟨vs, k1, k2⟩ := s1.wf.obj _ _ _ hj ej
          have s2 := s1.alloc hp (.lst [])
          have nq : q ≠ p := ne_of_none k1 hp
          have k1' : upd H1 p (.lst []) q = some (.lst vs) := by rw [upd_ne nq]; exact k1
          have k2' := k2.mono (Same.upd (o := .lst []) (s1.wf.none_of hp)) (Pre.refl _)
          have dl : Dp X.K (upd H1 p (.lst [])) (.ref q) (.list (toPs xs)) := .lst (.inl (.inl k1')) (Rps.dp s2.wf.sub k2' hc.1)
          have dn : Dp X.K (upd H1 p (.lst [])) (.ref p) (.list []) := .lst (.inl (.inl upd_same)) .nil
          obtain ⟨l1, l2⟩ := toPs_lay xs hc.1
          have sl : SeqAt.shaped (.list (toPs xs)) = true := by simp [SeqAt.shaped, PyData.canLay0, PyData.depth, l1, l2]; omega
          have ev : PyData.eqv (.list (toPs xs)) (.list []) = xs.isEmpty := by cases xs <;> simp [toPs, PyData.eqv, PyData.eqvAll]
          exact ⟨_, _, dl, dn, sl, by decide, by rw [ev]; exact h1 _ _ _ ρ1 (Same.upd (s1.wf.none_of hp)) (Pre.refl _) s2 (.bl _)⟩
        · exact h1.elim
      | ins _ _ => exact h1.elim
      | dead => exact h1.elim
  | _ => exact h1.elim
/-- {i: text, ..}[e] -/
def kvS (kvs : List (Int × Str)) : List (L2.Key × V) := kvs.map fun p => (Sum.inl p.1, V.str p.2)
theorem pairs_str : ∀ (kvs : List (Int × Str)) (σ : L2.St) (H : Hp) (Q : List (V × V) → Hp → Prop), Q (kvs.map fun p => (V.int p.1, V.str p.2)) H → tPairs (kvs.map fun p => (tC (.int p.1), tC (.str p.2))) σ H Q
  | [], σ, H, Q, h => h
  | p :: r, σ, H, Q, h => pairs_str r σ H (fun ps H' => Q ((.int p.1, .str p.2) :: ps) H') h
theorem valSt {kvs : List (Int × Str)} {i : Int} {v : Str} (h : kvs.lookup i = some v) : valV (kvS kvs) (Sum.inl i : L2.Key) = some (.str v) := by
  induction kvs with
  | nil => cases h
  | cons p r ih =>
    obtain ⟨a, b⟩ := p
    by_cases e : i = a
    · subst e
      have : v = b := by simpa using h.symm
      subst this
      exact valV_pos rfl
    · have h' : r.lookup i = some v := by
        have q : (i == a) = false := by simpa using e
        simpa [List.lookup, q] using h
      show valV ((Sum.inl a, V.str b) :: kvS r) _ = _
      rw [valV_neg (by intro z; exact e (Sum.inl.inj z).symm)]
      exact ih h'
theorem wDs (cc : Cc gd X W k) (kvs : List (Int × Str)) {keys : List (Option Expr)} {values : List Expr} (hp : PPs X p2 keys values (kvs.map fun p => (tC (.int p.1), tC (.str p.2)))) (hb : PE X b (tE nm X.K W fb)) (hn : mergeK [] (kvS kvs) = kvS kvs := by rfl) (h15 : kvs.length ≤ 15 := by decide)
    (hall : keys.all (·.isSome) = true := by rfl) (hl : keys.length = values.length := by rfl) (h0 : keys ≠ [] := by simp) (hk15 : keys.length ≤ 15 := by simp) (hs : PlainIx b := by intro _ _; rfl) :
    PE X (.Subscript (.Dict keys values p2) b pos) (tE nm X.K W (eDs kvs fb)) := by
  refine (pe_ix (ix_dic cc.gx.hu) (pe_disp hp hall hl h0 hk15) hb hs).imp fun σ H Q ⟨fr, ρ, G, e, M, s, h⟩ p hp => ?_
  refine pairs_str kvs σ _ _ ⟨upd_same, kvS kvs, ?_, by unfold kvS; rw [List.length_map]; exact h15, ?_⟩
  · unfold kvS; rw [List.map_map]; rfl
  rw [hn, upd_upd]
  have s1 := s.alloc hp (.dK (kvS kvs))
  refine tE.bind gdE_mono s1 (pG.mono gdE_mono (Same.upd (s.wf.none_of hp)) (Pre.refl _) h) fun ρ1 G1 e1 M1 d v H1 g1 p1 s2 r1 h1 => ?_
  cases r1 with
  | int z =>
    simp only at h1
    cases q : kvs.lookup z with
    | none => rw [q] at h1; exact h1.elim
    | some j =>
      rw [q] at h1
      have e1 : H1 p = some (.dK (kvS kvs)) := s2.wf.sub _ _ (g1 _ _ upd_same)
      exact ⟨p, .str j, rfl, .inl ⟨kvS kvs, Sum.inl z, .inl e1, rfl, (valSt q).symm⟩, h1 _ H1 G1 ρ1 (Same.refl _) (Pre.refl _) s2 (.str _)⟩
  | _ => exact h1.elim
end
end PM

namespace PM
open PySem PySem.Spec PyProof.Rows L2 He
/-! ### more facts of the head, as Bools -/
def excCB (K : Frg) (D : Addr) : Bool := decide (PySem.W.findIn K (.ref D) "__getattribute__" = some (some (.builtin "BaseException.__getattribute__"))) && (decide (PySem.W.findIn K (.ref D) "__getattr__" = some none) && (decide (PySem.W.subIn K (.ref D) (.type "BaseException") = some true) && (PySem.W.hasDictIn K D && (decide (PySem.W.findIn K (.ref D) "__class__" = some (some (.builtin "object.__class__"))) &&
  (decide (PySem.W.specialIn K (.builtin "object.__class__") "__get__" = some (some (.builtin "getset_descriptor.__get__"))) && (decide (PySem.W.takesIn K (.builtin "object.__class__") = some true) && decide (PySem.W.mroIn K D (.type "object") = some true)))))))
theorem excCB_ok {K : Frg} {D : Addr} (h : excCB K D = true) : ExcC K D := by
  obtain ⟨h1, h⟩ := ba h
  obtain ⟨h2, h⟩ := ba h
  obtain ⟨h3, h⟩ := ba h
  obtain ⟨h4, h⟩ := ba h
  obtain ⟨h5, h⟩ := ba h
  obtain ⟨h6, h⟩ := ba h
  obtain ⟨h7, h8⟩ := ba h
  exact ⟨of_decide_eq_true h1, of_decide_eq_true h2, of_decide_eq_true h3, h4, of_decide_eq_true h5, of_decide_eq_true h6, of_decide_eq_true h7, of_decide_eq_true h8⟩
def veB : List Value := [.type "ValueError", .type "Exception", .type "BaseException", .type "object"]
def eoB (K : Frg) (C : Addr) : Bool := PySem.W.keepIn K (.ref C) && (PySem.W.excIn K C veB "ValueError.__new__" && (decide (PySem.W.subIn K (.ref C) (.type "BaseException") = some true) && decide (PySem.W.typeIn K (.ref C) = some (.type "type"))))
theorem eoB_ok {K : Frg} {mg : Str → Option Value} {nm : Nm} {x : Str} {cn : Nat} (hm : mg x = some (.ref (nm.exc cn))) (h : eoB K (nm.exc cn) = true) : Eo K mg nm x cn := by
  obtain ⟨h1, h⟩ := ba h
  obtain ⟨h2, h⟩ := ba h
  obtain ⟨h3, h4⟩ := ba h
  exact ⟨hm, h1, ⟨_, _, _, PySem.F.excBase_ValueError, h2⟩, of_decide_eq_true h3, of_decide_eq_true h4⟩
end PM

namespace PM
open PySem PySem.Spec PyProof.Rows L2
def tEq0 (a : EF) : TF := fun e M => (a e M).bind fun x e M => match x with
  | .ref j => match M[j]? with
    | some (.lst xs) => if isDatas xs && decide (deps xs ≤ 60) then .ok xs.isEmpty e M else .bad
    | _ => .bad
  | _ => .bad
section
variable {gd : Bool} {X : Cx} {nm : Nm} {W : WX} {k : Nat} {pos p2 : Pos} {a b c : Expr} {es : List Expr} {fa fb : EF} {ga gb : AF}
theorem wTEq0 (cc : Cc gd X W k) {p3 : Pos} (ha : PE X a (tE nm X.K W fa)) (hm : behindInMarks .Eq (.List [] p3) = false := by rfl) : PT X (.Compare a [.Eq] [.List [] p3] pos) (tT nm X.K W (tEq0 fa)) := by
  have hu := cc.gx.hu
  refine (pt_cmpR (op_eqD (by omega)) ha (pe_lst pa_nil) hm).imp fun σ H Q ⟨fr, ρ, G, e, M, s, h⟩ => ?_
  show tTest _ σ H Q
  refine tE.bind gdT_mono s h fun ρ1 G1 e1 M1 d v H1 g1 p1 s1 r1 h1 => ⟨Nat.zero_le _, fun p hp => ?_⟩
  cases r1 with
  | @ref q j ej =>
    simp only at h1
    cases hj : M1[j]? with
    | none => rw [hj] at h1; exact h1.elim
    | some m =>
      rw [hj] at h1
      cases m with
      | lst xs =>
        simp only at h1
        split at h1
        · rename_i hc
          simp only [Bool.and_eq_true, decide_eq_true_eq] at hc
          obtain ⟨vs, k1, k2⟩ := s1.wf.obj _ _ _ hj ej
          have s2 := s1.alloc hp (.lst [])
          have nq : q ≠ p := ne_of_none k1 hp
          have k1' : upd H1 p (.lst []) q = some (.lst vs) := by rw [upd_ne nq]; exact k1
          have k2' := k2.mono (Same.upd (o := .lst []) (s1.wf.none_of hp)) (Pre.refl _)
          have dl : Dp X.K (upd H1 p (.lst [])) (.ref q) (.list (toPs xs)) := .lst (.inl (.inl k1')) (Rps.dp s2.wf.sub k2' hc.1)
          have dn : Dp X.K (upd H1 p (.lst [])) (.ref p) (.list []) := .lst (.inl (.inl upd_same)) .nil
          obtain ⟨l1, l2⟩ := toPs_lay xs hc.1
          have sl : SeqAt.shaped (.list (toPs xs)) = true := by simp [SeqAt.shaped, PyData.canLay0, PyData.depth, l1, l2]; omega
          have ev : PyData.eqv (.list (toPs xs)) (.list []) = xs.isEmpty := by cases xs <;> simp [toPs, PyData.eqv, PyData.eqvAll]
          exact ⟨_, _, dl, dn, sl, by decide, by rw [ev]; exact ⟨_, rfl, h1 _ _ ρ1 (Same.upd (s1.wf.none_of hp)) (Pre.refl _) s2⟩⟩
        · exact h1.elim
      | ins _ _ => exact h1.elim
      | dead => exact h1.elim
  | _ => exact h1.elim
def tIK (tb : Str → Option Int) (a : EF) : TF := fun e M => (a e M).bind fun d e M => match d with | .str z => .ok (tb z).isSome e M | _ => .bad
theorem wTIK {x : Str} {p : Pos} {tb : Str → Option Int} (h : ∃ d, X.mg x = some (.ref d) ∧ TbS X.K X.w d tb) (ha : PE X a (tE nm X.K W fa)) (hg : Gl X x := by rfl) (hdb : (x == ("__debug__" : Str)) = false := by decide) (hmk : behindInMarks .In (.Name x p) = false := by rfl) : PT X (.Compare a [.In] [.Name x p] pos) (tT nm X.K W (tIK tb fa)) := by
  obtain ⟨d, hm, T⟩ := h
  obtain ⟨es, n, kd⟩ := T.kd
  refine (pt_cmpR (op_in_kd kd) ha (pe_glob hg hm (show RelV (.ref d) (.ref d) from rfl) hdb) hmk).imp fun σ H Q ⟨fr, ρ, G, e, M, s, h⟩ => ?_
  show tTest _ σ H Q
  refine tE.bind gdT_mono s h fun ρ1 G1 e1 M1 x v H1 g1 p1 s1 r1 h1 => ?_
  cases r1 with
  | str z =>
    obtain ⟨r, k1, k2, k3⟩ := T.ns z
    refine ⟨z, r, rfl, rfl, k1, _, rfl, ?_⟩
    have e1 : r.isSome = (tb z).isSome := by
      cases q : tb z with
      | none => rw [k3 q]; rfl
      | some i => obtain ⟨u, hu, _⟩ := k2 i q; rw [hu]; rfl
    rw [e1]
    exact h1 H1 G1 ρ1 (Same.refl _) (Pre.refl _) s1
  | _ => exact h1.elim
end
end PM

namespace PM
open PySem PySem.Spec PyProof.Rows L2
/-! ### exceptions that are kept as values -/
def clsD : D → Option Str
  | .exc c _ _ => some c
  | .exb c => some c
  | _ => none
theorem exd_tbl {e : Addr} {fs : List (Str × V)} {ps : Array Value} : exd e fs ≠ .tbl ps := fun z => by
  unfold exd at z
  cases z
section
variable {X : Cx} {D0 a dd : Addr}
theorem inst_exo {s : Shared} {pins : List (Addr × Obj)} {σ : L2.St} {H : Hp} {fs : List (Str × V)} (I : Inv X pins σ H s) (h1 : H a = some (exo a D0 (some dd))) (h2 : H dd = some (exd dd fs)) :
    ∃ (oe od : Obj) (mA : Str → Option Value), PySem.W.InstAt s.heap a oe D0 (some od) ∧ (∀ f, RelO (fs.lookup f) (mA f)) ∧ ∀ n, PySem.W.lookIn n od = some (mA n) := by
  obtain ⟨t1, he⟩ := exo_at I.hok h1
  obtain ⟨mA, hns, hr⟩ := exd_at I.hok h2
  obtain ⟨od, h3, hl⟩ := lookIn_ns hns
  exact ⟨_, od, mA, ⟨he, rfl, rfl, h3⟩, hr, hl⟩
theorem inst_exb {s : Shared} {pins : List (Addr × Obj)} {σ : L2.St} {H : Hp} (I : Inv X pins σ H s) (h1 : H a = some (exo a D0 none)) :
    ∃ (oe : Obj), PySem.W.InstAt s.heap a oe D0 none := by
  obtain ⟨t1, he⟩ := exo_at I.hok h1
  exact ⟨_, ⟨he, rfl, rfl, trivial⟩⟩
theorem inst_exc {s : Shared} {pins : List (Addr × Obj)} {σ : L2.St} {H G : Hp} {ρ : List Addr} {d : D} {v : V} {c : Str} (I : Inv X pins σ H s) (hs : Same G H) (r : Rp X.K ρ G d v) (h : clsD d = some c) :
    ∃ (a : Addr) (oe : Obj) (od : Option Obj), v = .ref a ∧ PySem.W.InstAt s.heap a oe (He.ga X.K c) od := by
  cases r with
  | exc e1 e2 r =>
    cases h
    obtain ⟨oe, od, mA, J, _⟩ := inst_exo I (hs _ _ e1) (hs _ _ e2)
    exact ⟨_, oe, some od, rfl, J⟩
  | exb e1 =>
    cases h
    obtain ⟨oe, J⟩ := inst_exb I (hs _ _ e1)
    exact ⟨_, oe, none, rfl, J⟩
  | _ => cases h
def rIsX (K : Frg) : List V → Hp → VK → Prop := fun xs H Q => ∃ (v c : V) (cv : Value) (b : Bool) (ρ : List Addr) (G : Hp) (d : D) (n : Str), Same G H ∧ Rp K ρ G d v ∧ clsD d = some n ∧ xs = [v, c] ∧ (∀ u, L2.RelV c u → u = cv) ∧ ExcC K (He.ga K n) ∧ PySem.W.kitOne K (.ref (He.ga K n)) cv = some b ∧ Q (.bl b) H
theorem call_isX : CallR X (.builtin "isinstance") (rIsX X.K) := by
  intro pins s σ H xs us Q I r h
  obtain ⟨v, c, cv, b, ρ, G, d, n, hs, rd, hn, rfl, hcv, C, e, q⟩ := h
  obtain ⟨u1, u2, rfl, r1, r2⟩ := Vals.two r
  obtain ⟨a, oe, od, rfl, J⟩ := inst_exc I hs rd hn
  obtain rfl : u1 = Value.ref a := r1
  obtain rfl := hcv _ r2
  exact PySem.W.kia_one (kitx_any C) I.kIn J e (fun z => nomatch z) fun tk => ⟨.bl b, H, I.kept (t' := tk) fun _ _ z => z, rfl, q⟩
/-- isinstance of a kept exception: tb, the answer for each class -/
def eIsX (tb : List (Str × Bool)) (a : EF) : EF := fun e M => (a e M).bind fun d e M => lift ((clsD d).bind fun c => (tb.lookup c).map .bl) e M
structure IsX (K : Frg) (cv : Value) (tb : List (Str × Bool)) : Prop where
  all : ∀ c b, tb.lookup c = some b → ExcC K (He.ga K c) ∧ PySem.W.kitOne K (.ref (He.ga K c)) cv = some b
end
section
variable {gd : Bool} {X : Cx} {nm : Nm} {W : WX} {k : Nat} {pos p2 : Pos} {a b c : Expr} {es : List Expr} {fa fb : EF} {ga gb : AF}
theorem sE_isX {tb : List (Str × Bool)} {t : Expr} {cv : V} {cu : Value} {p : Pos} (ha : PE X a (tE nm X.K W fa)) (hc : PE X t (tC cv)) (hcv : ∀ u, L2.RelV cv u → u = cu) (g : IsX X.K cu tb) (hg : Gl X "isinstance") (hm : X.mg "isinstance" = none)
    (he1 : starEach [a, t] X.env = (false, eval a X.env) :: starEach [t] X.env) (he2 : starEach [t] X.env = (false, eval t X.env) :: starEach [] X.env) (hpl : (backTo pos (starEach [t] X.env)).any (·.1) = false) :
    PE X (.Call (.Name "isinstance" p) [a, t] [] pos) (tE nm X.K W (eIsX tb fa)) := by
  refine (pe_callB call_isX hg hm rfl (pa_cons ha (pa_cons hc pa_nil he2) he1) (by decide) (by decide) he1 hpl).imp fun σ H Q ⟨fr, ρ, G, e, M, s, h⟩ => ?_
  show tCons _ _ σ H _
  refine tE.bind gdE_mono s h fun ρ1 G1 e1 M1 d v H1 g1 p1 s1 r1 h1 => ?_
  cases q : clsD d with
  | none => rw [q] at h1; exact h1.elim
  | some n =>
    rw [q] at h1
    cases q2 : tb.lookup n with
    | none => simp only [Option.bind_some, q2] at h1; exact h1.elim
    | some b =>
      simp only [Option.bind_some, q2] at h1
      obtain ⟨k1, k2⟩ := g.all n b q2
      exact ⟨v, cv, cu, b, ρ1, G1, d, n, s1.wf.sub, r1, q, rfl, hcv, k1, k2, h1 _ H1 G1 ρ1 (Same.refl _) (Pre.refl _) s1 (.bl _)⟩
theorem wIsXC {tb : List (Str × Bool)} {t : Str} {p p2 : Pos} (ha : PE X a (tE nm X.K W fa)) (h : ∃ C, X.mg t = some (.ref C) ∧ IsX X.K (.ref C) tb) (hm : X.mg "isinstance" = none) (hgt : Gl X t := by rfl) (hdt : (t == ("__debug__" : Str)) = false := by decide) (hg : Gl X "isinstance" := by rfl)
    (he1 : starEach [a, .Name t p2] X.env = (false, eval a X.env) :: starEach [.Name t p2] X.env := by rfl) (he2 : starEach [Expr.Name t p2] X.env = (false, eval (.Name t p2) X.env) :: starEach [] X.env := by rfl) (hpl : (backTo pos (starEach [Expr.Name t p2] X.env)).any (·.1) = false := by rfl) :
    PE X (.Call (.Name "isinstance" p) [a, .Name t p2] [] pos) (tE nm X.K W (eIsX tb fa)) := by
  obtain ⟨C, hmt, g⟩ := h
  exact sE_isX ha (pe_glob hgt hmt (show RelV (.ref C) (.ref C) from rfl) hdt) (fun u r => r) g hg hm he1 he2 hpl
theorem wIsXB {tb : List (Str × Bool)} {t : Str} {id : String} {p p2 : Pos} (ha : PE X a (tE nm X.K W fa)) (hmt : X.mg t = none) (g : IsX X.K (.type id) tb) (hm : X.mg "isinstance" = none) (hvt : bootBuiltins t = some (.type id) := by rfl) (hgt : Gl X t := by rfl) (hnt : t ≠ "__name__" := by decide) (hdt : (t == ("__debug__" : Str)) = false := by decide) (hg : Gl X "isinstance" := by rfl)
    (he1 : starEach [a, .Name t p2] X.env = (false, eval a X.env) :: starEach [.Name t p2] X.env := by rfl) (he2 : starEach [Expr.Name t p2] X.env = (false, eval (.Name t p2) X.env) :: starEach [] X.env := by rfl) (hpl : (backTo pos (starEach [Expr.Name t p2] X.env)).any (·.1) = false := by rfl) :
    PE X (.Call (.Name "isinstance" p) [a, .Name t p2] [] pos) (tE nm X.K W (eIsX tb fa)) :=
  sE_isX ha (pe_bltn hgt hmt hvt (show RelV (.ty id) (.type id) from rfl) hnt hdt) (fun u r => r) g hg hm he1 he2 hpl
/-- e.f of a kept exception; l: the classes whose instances are asked -/
def eFX (l : List Str) (f : Str) (a : EF) : EF := fun e M => (a e M).bind fun d e M => match d with
  | .exc c g v => if l.contains c && g == f then .ok v e M else .bad
  | _ => .bad
structure FX (K : Frg) (l : List Str) (f : Str) : Prop where
  all : ∀ c, c ∈ l → XfC K (He.ga K c) ∧ PySem.W.findIn K (.ref (He.ga K c)) f = some none
theorem wFX {l : List Str} {f : Str} (g : FX X.K l f) (ha : PE X a (tE nm X.K W fa)) (hb : attributeBase a f X.env (eval a X.env) = eval a X.env := by rfl) : PE X (.Attribute a f pos) (tE nm X.K W (eFX l f fa)) := by
  refine ⟨fun pins s σ H Q I h => ?_⟩
  obtain ⟨fr, ρ, G, e, M, s0, h⟩ := h
  refine attr_of hb (thn (ha.run pins s σ H (fun v H' => ∃ (x dd : Addr) (cn g : Str) (y : V), v = .ref x ∧ l.contains cn = true ∧ g = f ∧ H' x = some (exo x (He.ga X.K cn) (some dd)) ∧ H' dd = some (exd dd [(g, y)]) ∧ Q y H') I ?_) fun u s1 hh => ?_)
  · refine tE.bind gdE_mono s0 h fun ρ1 G1 e1 M1 d v H1 g1 p1 s1 r1 h1 => ?_
    cases r1 with
    | exc k1 k2 r =>
      simp only at h1
      split at h1
      · rename_i hc
        simp only [Bool.and_eq_true, beq_iff_eq] at hc
        exact ⟨_, _, _, _, _, rfl, hc.1, hc.2, s1.wf.sub _ _ k1, s1.wf.sub _ _ k2, h1 _ H1 G1 ρ1 (Same.refl _) (Pre.refl _) s1 r⟩
      · exact h1.elim
    | _ => exact h1.elim
  · obtain ⟨v, H1, I1, rx, x, dd, cn, g', y, rfl, hl, rfl, k1, k2, q⟩ := hh
    obtain rfl : u = Value.ref x := rx
    obtain ⟨T, hno⟩ := g.all cn (by simpa using hl)
    obtain ⟨oe, od, mA, J, hr, hlk⟩ := inst_exo I1 k1 k2
    obtain ⟨u, hu, ru⟩ := RelO.some_of (v := y) (o := mA g') (by have := hr g'; simpa [List.lookup] using this)
    exact HandSPX.exc_get I1.kIn J T.ga T.gg T.exC (PySem.W.findObj_own T.hdC hno rfl (by rw [hlk, hu])) (handed_of ru) ⟨y, H1, I1.tok _, ru, q⟩
end
end PM

namespace PM
open PySem PySem.Spec PyProof.Rows L2
/-! ### C(e), kept -/
/-- the reading of an exception's making: sp, what its __init__ promises -/
def tKeep (C : Addr) (sp : Sp) (ta : TA) : TE := fun σ H Q => ta σ H fun vs H1 => vs.length ≤ 1000 ∧ ∀ a, H1 a = none → sp (.ref a :: vs) (upd H1 a (exo a C none)) (fun v H2 => v = .non ∧ Q (.ref a) H2) (fun _ _ _ => False)
section
variable {X : Cx} {e : Expr} {es : List Expr} {ta : TA} {pos : Pos}
theorem pe_keep {x : Str} {C fI : Addr} {k : Nat} {fd : FuncData} {ps : List Str} {sp : Sp} {p : Pos} (T : OexC X.K C) (hI : PySem.W.findIn X.K (.ref C) "__init__" = some (some (.ref fI))) (hF : PySem.W.typeIn X.K (.ref fI) = some (.type "function"))
    (F1 : FnOk X.prog X.w X.K X.mg X.base (L2.CX X.prog X.w) k fI fd ps sp) (room : Room (k + 1) X.A) (hb : Binds X.K fd ps []) (nox : Passes (L2.CX X.prog X.w) X fun _ _ _ => False) (hg : Gl X x) (hm : X.mg x = some (.ref C)) (ha : PA X (e :: es) ta)
    (hdb : (x == ("__debug__" : Str)) = false) (hst : starEach (e :: es) X.env = (false, eval e X.env) :: starEach es X.env) (hpl : (backTo pos (starEach es X.env)).any (·.1) = false) :
    PE X (.Call (.Name x p) (e :: es) [] pos) (tKeep C sp ta) := by
  refine ⟨fun pins s σ H Q I h => ?_⟩
  obtain ⟨n0, q0, N0, bs0, bm0, sn0, su0, ab0, co0, dd0, x0, x1, x2, x3, x5, atC, ve⟩ := T.cls
  refine wpAny_Call_Name_kw (ld_glob I hg hm (PySem.W.callWith_K (h₀ := X.base) I.ok.mod.kin T.kC (thn (ha.run pos pins s σ H _ I h) fun us s1 hh => ?_) hst hpl) hdb)
  obtain ⟨vs, H1, I1, rv, few, q1⟩ := hh
  refine ⟨I1.kIn, ?_⟩
  show wpAny _ _ (call (.ref C) us) _ _ _
  obtain ⟨hp, ge, dr, tk, os⟩ := s1
  have big : hp.objs.size ≤ hp.objs.size + 1 := Nat.le_add_right _ 1
  have free : H1 (hp.objs.size + 1) = none := I1.hok.fresh big
  have sat := q1 _ free
  let hp2 := (hp.push (PySem.W.kdv_tup us)).push (PySem.HandSPX.excO C hp.objs.size)
  have keep : ∀ b o, hp.get? b = some o → hp2.get? b = some o := fun b o z => Heap.get?_push_of_some _ (Heap.get?_push_of_some _ z)
  have new : hp2.get? (hp.objs.size + 1) = some (PySem.HandSPX.excO C hp.objs.size) := by
    show ((hp.push (PySem.W.kdv_tup us)).push (PySem.HandSPX.excO C hp.objs.size)).get? (hp.objs.size + 1) = _
    heap_get
  have I2 : Inv X pins σ (upd H1 (hp.objs.size + 1) (exo (hp.objs.size + 1) C none)) ⟨hp2, ge, dr, tk, os⟩ := I1.laid (t' := tk) keep big (exo_ok new)
  have rv2 : Vals (V.ref (hp.objs.size + 1) :: vs) (Value.ref (hp.objs.size + 1) :: us) := .cons rfl rv
  have long : (Value.ref (hp.objs.size + 1) :: us).length = ps.length := rv2.length.symm.trans (F1.len _ _ _ _ sat)
  have short : us.length ≤ sizeLine := by
    have := Paired.length rv
    rw [sizeLine_eq]
    omega
  have rn := F1.run _ X.stack _ _ ⟨Value.ref (hp.objs.size + 1) :: us, []⟩ (Value.ref (hp.objs.size + 1) :: us) _ _ (fun _ _ _ => False) (room.make C us []) (I2.env0.make C us []) (by have := hb _ (Value.ref (hp.objs.size + 1) :: us) I2.kIn (by rw [List.append_nil]; exact long); rwa [List.append_nil] at this) rv2 sat
  refine wpAny_call (PySem.HandSPX.call_own F.excBase_ValueError (PySem.HandSPX.refsVE_contains · bm0 ve) (I1.kIn _ _ atC) (PySem.W.looks_findIn I1.kIn hI) (PySem.W.bind_fn I1.kIn · hF) short (codeAny_mono rn fun r s' hq => ?_))
  match r, hq with
  | .error er, hq => exact nox pins σ _ _ er s' I2 hq
  | .ok (.ret u), hq =>
    obtain ⟨v, σH, J, ru, ev, q⟩ := I2.after hq
    subst ev
    exact ⟨ru, .ref (hp.objs.size + 1), σH, J, rfl, q⟩
  | .ok .next, hq => exact hq.elim
  | .ok .brk, hq => exact hq.elim
  | .ok .cont, hq => exact hq.elim
end
end PM
namespace PM
open PySem PySem.Spec PyProof.Rows L2
/-- an own exception class that keeps one thing, by names -/
structure Ek (P : Program) (w : World) (K : Frg) (mg : Str → Option Value) (base : Heap) (x f : Str) (k : Nat) : Prop where
  ok : OexC K (He.ga K x)
  hm : mg x = some (.ref (He.ga K x))
  ini : ∃ fI fd ps, PySem.W.findIn K (.ref (He.ga K x)) "__init__" = some (some (.ref fI)) ∧ PySem.W.typeIn K (.ref fI) = some (.type "function") ∧ FnOk P w K mg base (L2.CX P w) k fI fd ps (spOI (He.ga K x) f) ∧ Binds K fd ps [] ∧ KwB K fd ps 1 [f] [0]
theorem ek_of {P : Program} {w : World} {K : Frg} {mg : Str → Option Value} {base : Heap} {x q s1 x1 f : Str} {st : Stmt} {fI : Addr} {fd : FuncData} {p1 p2 p3 p4 : Pos} (hx : oexB K (He.ga K x) = true) (hm : mg x = some (.ref (He.ga K x)))
    (hi : PySem.W.findIn K (.ref (He.ga K x)) "__init__" = some (some (.ref fI))) (ht : PySem.W.typeIn K (.ref fI) = some (.type "function")) (F : FnQ K "__init__" q st fI fd) (hno : PySem.W.findIn K (.ref (He.ga K x)) f = some none)
    (hb : defBody st = [.Assign [.Attribute (.Name s1 p1) f p2] (.Name x1 p3) p4]) (S : FnScope [s1, x1] [s1, x1] (defScope st)) (hv1 : Vis (defScope st) s1) (hv2 : Vis (defScope st) x1) (d1 : (s1 == ("__debug__" : Str)) = false) (d2 : (s1 == ("__classdict__" : Str)) = false) (d3 : (x1 == ("__debug__" : Str)) = false) (d4 : (x1 == ("__classdict__" : Str)) = false)
    (hs : ∀ env : Env, env.scope = defScope st → swapsWith (.Name x1 p3) (some (.Attribute (.Name s1 p1) f p2)) p4.line env = pure false) (hB : Binds K fd [s1, x1] []) (hK : KwB K fd [s1, x1] 1 [f] [0]) : Ek P w K mg base x f 1 := by
  have T := oexB_ok hx
  obtain ⟨oc, od, dV, kV, doc, pm, an, cdv, ct, osl, e, lk, hcd, _, _⟩ := F.ex
  subst e
  have eB : PySem.W.fnOf "__init__" q (defArgs st) (defBody st) (defScope st) dV kV doc pm an cdv ct = PySem.W.fnOf "__init__" q (defArgs st) [.Assign [.Attribute (.Name s1 p1) f p2] (.Name x1 p3) p4] (defScope st) dV kV doc pm an cdv ct := congrArg (fun b => PySem.W.fnOf "__init__" q (defArgs st) b (defScope st) dV kV doc pm an cdv ct) hb
  refine ⟨T, hm, fI, _, _, hi, ht, ?_, hB, hK⟩
  rw [eB] at lk ⊢
  exact oinit (k := 0) T hno lk hcd S hv1 hv2 d1 d2 d3 d4 hs
def eMkX (c f : Str) (a : EF) : EF := fun e M => (a e M).bind fun d e M => .ok (.exc c f d) e M
def eMk0X (c : Str) : EF := fun e M => .ok (.exb c) e M
section
variable {gd : Bool} {X : Cx} {nm : Nm} {W : WX} {k : Nat} {pos : Pos} {a : Expr} {fa : EF}
theorem keep_got {fr : Fr} {ρ : List Addr} {G H : Hp} {e : Ev} {M : List MO} {σ : L2.St} {Q : VK} {x f : Str} {d : D} {v : V} {b dx : Addr} (s1 : SR nm X.K fr ρ G e M σ H) (r1 : Rp X.K ρ G d v) (hb : H b = none) (hdx : upd H b (exo b (He.ga X.K x) none) dx = none) (hne : dx ≠ b)
    (h1 : pG nm X.K fr W (gdE nm X.K fr σ Q) ρ G (.ok (.exc x f d) e M)) : Q (.ref b) (upd (upd (upd H b (exo b (He.ga X.K x) none)) dx (exd dx [(f, v)])) b (exo b (He.ga X.K x) (some dx))) := by
  have hd : H dx = none := by rw [upd_ne hne] at hdx; exact hdx
  have e1 : upd (upd (upd H b (exo b (He.ga X.K x) none)) dx (exd dx [(f, v)])) b (exo b (He.ga X.K x) (some dx)) = upd (upd H dx (exd dx [(f, v)])) b (exo b (He.ga X.K x) (some dx)) := by
    funext z
    by_cases hz : z = b
    · subst hz; rw [upd_same, upd_same]
    · rw [upd_ne hz, upd_ne hz]
      by_cases hzd : z = dx
      · subst hzd; rw [upd_same, upd_same]
      · rw [upd_ne hzd, upd_ne hzd, upd_ne hz]
  rw [e1]
  have hb2 : upd H dx (exd dx [(f, v)]) b = none := by rw [upd_ne (Ne.symm hne)]; exact hb
  have s2 := s1.alloc hd (exd dx [(f, v)]) (fun _ => exd_tbl)
  have s3 := s2.alloc hb2 (exo b (He.ga X.K x) (some dx)) (fun _ => exo_tbl)
  have g2 := Same.upd (o := exd dx [(f, v)]) (s1.wf.none_of hd)
  have g3 := Same.upd (o := exo b (He.ga X.K x) (some dx)) (s2.wf.none_of hb2)
  exact h1 (.ref b) _ _ ρ (g2.trans g3) (Pre.refl _) s3 (.exc upd_same (by rw [upd_ne hne, upd_same]) (r1.mono (g2.trans g3) (Pre.refl _)))
theorem wMkX {f x : Str} {j : Nat} {p : Pos} (cc : Cc gd X W k) (T : Ek X.prog X.w X.K X.mg X.base x f j) (ha : PE X a (tE nm X.K W fa)) (hj : j + 1 ≤ k := by decide) (hg : Gl X x := by rfl) (hdb : (x == ("__debug__" : Str)) = false := by decide)
    (he : starEach [a] X.env = (false, eval a X.env) :: starEach [] X.env := by rfl) : PE X (.Call (.Name x p) [a] [] pos) (tE nm X.K W (eMkX x f fa)) := by
  obtain ⟨fI, fd, ps, h1, h2, h3, h4, _⟩ := T.ini
  refine (pe_keep T.ok h1 h2 h3 (cc.hr.mono hj) h4 (passes_call cc.tk fun _ _ _ _ h => h.elim) hg T.hm (pa_cons ha pa_nil he) hdb he (by rfl)).imp fun σ H Q ⟨fr, ρ, G, e, M, s, h⟩ => ?_
  show tCons _ _ σ H _
  exact tE.bind gdE_mono s h fun ρ1 G1 e1 M1 d v H1 g1 p1 s1 r1 h1 => ⟨by simp, fun b hb => ⟨b, v, rfl, upd_same, fun dx hdx hne => ⟨rfl, keep_got s1 r1 hb hdx hne h1⟩⟩⟩
theorem wMk0X {x : Str} {cn : Nat} {p : Pos} (T : Eo X.K X.mg nm x cn) (hC : nm.exc cn = He.ga X.K x) (hg : Gl X x := by rfl) (hdb : (x == ("__debug__" : Str)) = false := by decide) : PE X (.Call (.Name x p) [] [] pos) (tE nm X.K W (eMk0X x)) := by
  obtain ⟨bmB, nI, iI, F, q⟩ := T.ex
  refine ⟨fun pins s σ H Q I ⟨fr, ρ, G, e, M, s1, h⟩ => ?_⟩
  refine wpAny_Call_Name_kw (ld_glob I hg T.hm (PySem.W.callWith_K0 I.kIn T.kp ?_) hdb)
  obtain ⟨bm, N, n, qn, bs, hdct, sn, sub, ab, col, dd, k0, k1, k2, k3, k5, mN, atC, hN, hni, OT⟩ := exc_obj I.kIn q
  refine wpAny_call_exc_subT F OT atC hN hni (fun h' b hm => ?_) (Nat.zero_le _)
  obtain ⟨t, he, _, _⟩ := hm.there
  have hn : H b = none := I.hok.gone hm.new
  have g2 := Same.upd (o := exo b (He.ga X.K x) none) (s1.wf.none_of hn)
  refine ⟨.ref b, upd H b (exo b (He.ga X.K x) none), ?_, rfl, ?_⟩
  · exact I.laidN (t' := s.toks) hm.keeps hm.new hn (exo_ok (by rw [← hC]; exact he))
  · exact h (.ref b) _ _ ρ g2 (Pre.refl _) (s1.alloc hn _ fun _ => exo_tbl) (.exb upd_same)
end
end PM

namespace PM
open PySem PySem.Builtin PySem.Builtin.ObjectAttr
section
variable {M : Model} {A : Around} {E : Value → Shared → Prop} {h : Heap} {g : Array GenState} {d : Drawn} {t : Nat} {os : OsState}
variable {nm q : Str} {C N : Addr} {bs bm bmB : List Value} {hdct : Bool} {sn : List Str} {sub : List Value} {ab : Bool} {col : Option Bool} {dd : Option Addr} {k0 k1 k2 k3 k5 : Option Value} {B newId initId : String}
theorem kwx_check (F : ExcBaseFacts B newId initId bmB) (hT : ∀ X : String, bm.contains (.type X) = bmB.contains (.type X)) {kw : List (Str × Value)} {Q : Unit → Shared → Prop}
    (hC : h.get? C = some (excClassObj nm q C N bs bm hdct sn sub ab col dd k0 k1 k2 k3 k5 newId)) (hq : Q () ⟨h, g, d, t, os⟩) : wpAny M A (checkBuiltinCall newId ⟨[.ref C], kw⟩) Q E ⟨h, g, d, t, os⟩ := by
  have in1 : (Value.ref C :: bm).contains (.type B) = true := by rw [List.contains_cons, hT, F.hasB, Bool.or_true]
  have st := F.noStar
  simp only [checkBuiltinCall, F.newKind, F.newSplit, F.newRow]
  repeat (first | refine wpAny_loadPart_at hC ?_ | (refine wpAny_isSubtype_exc hC ?_; rw [in1]) | refine wpAny_staticBase_exc hC ?_ | refine wpAny_madeBy_exc hC ?_ | simp only [bne_self_eq_false, Bool.false_eq_true, if_false] | wp_step)
  exact hq
end
section
variable {prog : Program} {w : World} {A : Around} {E : Value → Shared → Prop} {R : Result → Shared → Prop} {h : Heap} {g : Array GenState} {d : Drawn} {t : Nat} {os : OsState}
variable {nm q : Str} {C N : Addr} {bs bm bmB : List Value} {hdct : Bool} {sn : List Str} {sub : List Value} {ab : Bool} {col : Option Bool} {dd : Option Addr} {k0 k1 k2 k3 k5 : Option Value} {B newId initId : String}
theorem kwx_new (F : ExcBaseFacts B newId initId bmB) (hT : ∀ X : String, bm.contains (.type X) = bmB.contains (.type X)) {kw : List (Str × Value)}
    (hC : h.get? C = some (excClassObj nm q C N bs bm hdct sn sub ab col dd k0 k1 k2 k3 k5 newId))
    (fin : R (.ok (.ret (.ref (h.objs.size + 1)))) ⟨(h.push (PySem.W.kdv_tup [])).push (PySem.HandSPX.excO C h.objs.size), g, d, t, os⟩) :
    codeAny (model prog w) A (.builtin newId ⟨[.ref C], kw⟩) R ⟨h, g, d, t, os⟩ := by
  have en := F.ends
  have in1 : (Value.ref C :: bm).contains (.type B) = true := by rw [List.contains_cons, hT, F.hasB, Bool.or_true]
  have in2 : (Value.ref C :: bm).contains (.type "AttributeError") = false := by rw [List.contains_cons, hT, F.noAttr]; rfl
  have in3 : (Value.ref C :: bm).contains (.type "NameError") = false := by rw [List.contains_cons, hT, F.noName]; rfl
  refine codeAny_builtinAt F.entry ?_
  unfold Builtin.«BaseException.__new__»
  refine PySem.wpAt_bind ?_
  show wpAt _ _ _ (stack >>= _) _ _ _
  refine PySem.wpAt_bind (PySem.wpAt_stack fun p below => PySem.wpAt_of_wpAny ?_)
  wp_walk
  refine PySem.wpAt_of_wpAny ?_
  rw [F.owner]
  repeat (first | with_reducible refine wpAny_madeHere_exc F.canon hC ?_ | with_reducible refine wpAny_loadPart_at hC ?_ | (with_reducible refine wpAny_isSubtype_exc hC ?_; first | rw [in1] | rw [in2] | rw [in3]) | wp_step)
  show R _ _
  rw [Heap.size_push]
  exact fin
end
end PM

namespace PM
open PySem PySem.Builtin PySem.Builtin.ObjectAttr
section
variable {prog : Program} {w : World} {A : Around} {E : Value → Shared → Prop} {R : Result → Shared → Prop} {h : Heap} {g : Array GenState} {d : Drawn} {t : Nat} {os : OsState}
variable {nm q : Str} {C N : Addr} {bs bm bmB : List Value} {hdct : Bool} {sn : List Str} {sub : List Value} {ab : Bool} {col : Option Bool} {dd : Option Addr} {k0 k1 k2 k3 k5 : Option Value} {B newId initId : String}
theorem kwx_type (F : ExcBaseFacts B newId initId bmB) (hT : ∀ X : String, bm.contains (.type X) = bmB.contains (.type X)) {kw : List (Str × Value)} {fI : Addr} {Q : Fin → Shared → Prop}
    (hC : h.get? C = some (excClassObj nm q C N bs bm hdct sn sub ab col dd k0 k1 k2 k3 k5 newId))
    (look : PySem.W.Looks (model prog w) h (typeLookup (.ref C) "__init__") (some (.ref fI))) (bnd : ∀ self, PySem.W.Looks (model prog w) h (bindSpecial (.ref fI) self) (.ref fI, [self]))
    (run : codeAny (model prog w) A (.call (.ref fI) ⟨[.ref (h.objs.size + 1)], kw⟩)
      (fun r s' => match r with | .ok (.ret v) => v = .none ∧ Q (.done (.ret (.ref (h.objs.size + 1)))) s' | .ok _ => False | .error e => E e s')
      ⟨(h.push (PySem.W.kdv_tup [])).push (PySem.HandSPX.excO C h.objs.size), g, d, t, os⟩) :
    wpAny (model prog w) A (Builtin.«type.__call__» ⟨[.ref C], kw⟩) Q E ⟨h, g, d, t, os⟩ := by
  repeat (first | with_reducible refine wpAny_loadPart_at hC ?_ | with_reducible refine wpAny_madeBy_exc hC ?_ | wp_step)
  refine codeAny_call_builtin_code (Code.quiet_builtin _ F.quiet) (kwx_check F hT hC (kwx_new F hT hC ?_))
  show wpAny _ _ _ _ _ _
  have keep : ∀ b o, h.get? b = some o → ((h.push (PySem.W.kdv_tup [])).push (PySem.HandSPX.excO C h.objs.size)).get? b = some o := fun b o z => Heap.get?_push_of_some _ (Heap.get?_push_of_some _ z)
  have atC := keep _ _ hC
  have new : ((h.push (PySem.W.kdv_tup [])).push (PySem.HandSPX.excO C h.objs.size)).get? (h.objs.size + 1) = some (PySem.HandSPX.excO C h.objs.size) := by heap_get
  have own : (Value.ref C :: bm).contains (.ref C) = true := by simp
  have l1 := look.keeps keep
  have b1 := (bnd (.ref (h.objs.size + 1))).keeps keep
  unfold isInstance
  repeat (first | with_reducible refine wpAny_loadPart_at new ?_ | (with_reducible refine wpAny_isSubtype_exc atC ?_; rw [own]) | wp_step)
  show wpAny _ _ (typeLookup (.ref C) _) _ _ _
  refine l1.at (wpAny_holding (wpAny_bind (b1.at (wpAny_bind (wpAny_call (codeAny_mono run fun r s' z => ?_))))))
  rcases r with e | (v | _ | _ | _) <;> first | exact z | exact z.elim | skip
  obtain ⟨rfl, z⟩ := z
  first
    | exact wpAny_pure (wpAny_pure z)
    | (wp_walk; exact z)
theorem kwx_ck {M : Model} {kw : List (Str × Value)} {Q : Unit → Shared → Prop} (hC : h.get? C = some (excClassObj nm q C N bs bm hdct sn sub ab col dd k0 k1 k2 k3 k5 newId))
    (hq : Q () ⟨h, g, d, t, os⟩) : wpAny M A (checkBuiltinCall "type.__call__" ⟨[.ref C], kw⟩) Q E ⟨h, g, d, t, os⟩ := by
  have f3 := tc_sub
  have ty : (⟨h, g, d, t, os⟩ : Shared).TypeIs (.ref C) "type" := ⟨_, hC, rfl⟩
  simp only [checkBuiltinCall, tc_kind, tc_split]
  repeat (any_goals (first | assumption | with_reducible refine wpAny_loadPart_at hC ?_ | with_reducible refine wpAny_onRaise ?_ | with_reducible refine wpAny_map ?_ | wp_step))
theorem kwx_call (F : ExcBaseFacts B newId initId bmB) (hT : ∀ X : String, bm.contains (.type X) = bmB.contains (.type X)) {kw : List (Str × Value)} {fI : Addr}
    (hC : h.get? C = some (excClassObj nm q C N bs bm hdct sn sub ab col dd k0 k1 k2 k3 k5 newId))
    (look : PySem.W.Looks (model prog w) h (typeLookup (.ref C) "__init__") (some (.ref fI))) (bnd : ∀ self, PySem.W.Looks (model prog w) h (bindSpecial (.ref fI) self) (.ref fI, [self]))
    (run : codeAny (model prog w) (A.under (.builtin "type.__call__" ⟨[.ref C], kw⟩)) (.call (.ref fI) ⟨[.ref (h.objs.size + 1)], kw⟩) (PySem.W.InitBack (h.objs.size + 1) R)
      ⟨(h.push (PySem.W.kdv_tup [])).push (PySem.HandSPX.excO C h.objs.size), g, d, t, os⟩) :
    codeAny (model prog w) A (.call (.ref C) ⟨[], kw⟩) R ⟨h, g, d, t, os⟩ := by
  have f1 := tc_lookup
  have f2 := tc_bind (.ref C)
  have ty : (⟨h, g, d, t, os⟩ : Shared).TypeIs (.ref C) "type" := ⟨_, hC, rfl⟩
  refine codeAny_of_tree ?_
  show wpAny _ _ (callAny (.ref C) _) _ _ _
  repeat (any_goals (first | assumption | with_reducible refine wpAny_loadPart_at hC ?_ | wp_step))
  refine ⟨rfl, ?_⟩
  refine codeAny_call_builtin_at (Code.quiet_builtin _ (by decide +kernel)) entry_typeCall (kwx_ck hC (kwx_type F hT hC look bnd ?_))
  refine codeAny_mono run fun r s' z => ?_
  rcases r with e | (v | _ | _ | _) <;> exact z
end
end PM

namespace PM
open PySem PySem.Spec PyProof.Rows L2
/-- C(f = e), kept -/
def eMkXK (c f : Str) (ga : AF) : EF := fun e M => (ga e M).bind fun ds e M => match ds with
  | [d] => .ok (.exc c f d) e M
  | _ => .bad
section
variable {gd : Bool} {X : Cx} {nm : Nm} {W : WX} {k : Nat} {pos : Pos} {ga : AF}
theorem wMkXK {f x : Str} {j : Nat} {p : Pos} {kws : List Keyword} (cc : Cc gd X W k) (T : Ek X.prog X.w X.K X.mg X.base x f j) (hx : PK X kws (tA nm X.K W ga)) (hj : j + 1 ≤ k := by decide) (hg : Gl X x := by rfl) (hdb : (x == ("__debug__" : Str)) = false := by decide)
    (hall : (backToKw pos (keywordEach kws X.env)).all (·.1.isSome) = true := by rfl) (hks : (backToKw pos (keywordEach kws X.env)).filterMap (·.1) = [f] := by rfl)
    (hpl : ((backTo pos (starEach [] X.env)).any (·.1) || (backToKw pos (keywordEach kws X.env)).any (·.1.isNone)) = false := by rfl) : PE X (.Call (.Name x p) [] kws pos) (tE nm X.K W (eMkXK x f ga)) := by
  obtain ⟨fI, fd, ps, h1, h2, h3, _, hK⟩ := T.ini
  obtain ⟨n0, q0, N0, bs0, bm0, sn0, su0, ab0, co0, dd0, x0, x1, x2, x3, x5, atC, ve⟩ := T.ok.cls
  refine ⟨fun pins s σ H Q I ⟨fr, ρ, G, e, M, r, h⟩ => ?_⟩
  refine wpAny_Call_Name_kw (ld_glob I hg T.hm ?_ hdb)
  refine PySem.W.callWith_KW0 (h₀ := X.base) I.ok.mod.kin T.ok.kC hall (thn (hx.run pos pins s σ H (fun vs H1 => ∃ (ρ1 : List Addr) (G1 : Hp) (e1 : Ev) (M1 : List MO) (d : D) (v : V), vs = [v] ∧ SR nm X.K fr ρ1 G1 e1 M1 σ H1 ∧ Rp X.K ρ1 G1 d v ∧ pG nm X.K fr W (gdE nm X.K fr σ Q) ρ1 G1 (.ok (.exc x f d) e1 M1)) I
    (tA.bind gdE_mono r h fun ρ1 G1 e1 M1 ds vs H1 g1 p1 s2 r1 h1 => ?_)) fun ws s1 ⟨zs, H1, I1, rv, ρ1, G1, e1, M1, d, v, hz, s2, r1, hq1⟩ => ⟨I1.kIn, ?_⟩) hpl
  · split at h1
    · rename_i d
      obtain ⟨v, rfl, rd⟩ := r1.one
      exact ⟨ρ1, G1, e1, M1, d, v, rfl, s2, rd, h1⟩
    · exact h1.elim
  subst hz
  rw [hks]
  obtain ⟨u, rfl, ru⟩ : ∃ u, ws = [u] ∧ L2.RelV v u := by
    cases rv with
    | cons a b => cases b; exact ⟨_, rfl, a⟩
  obtain ⟨hp, ge, dr, tk, os⟩ := s1
  have big : hp.objs.size ≤ hp.objs.size + 1 := Nat.le_add_right _ 1
  have free : H1 (hp.objs.size + 1) = none := I1.hok.fresh big
  let hp2 := (hp.push (PySem.W.kdv_tup [])).push (PySem.HandSPX.excO (He.ga X.K x) hp.objs.size)
  have keep : ∀ b o, hp.get? b = some o → hp2.get? b = some o := fun b o z => Heap.get?_push_of_some _ (Heap.get?_push_of_some _ z)
  have new : hp2.get? (hp.objs.size + 1) = some (PySem.HandSPX.excO (He.ga X.K x) hp.objs.size) := by
    show ((hp.push (PySem.W.kdv_tup [])).push (PySem.HandSPX.excO (He.ga X.K x) hp.objs.size)).get? (hp.objs.size + 1) = _
    heap_get
  have I2 : Inv X pins σ (upd H1 (hp.objs.size + 1) (exo (hp.objs.size + 1) (He.ga X.K x) none)) ⟨hp2, ge, dr, tk, os⟩ := I1.laid (t' := tk) keep big (exo_ok new)
  have sat : spOI (He.ga X.K x) f [.ref (hp.objs.size + 1), v] (upd H1 (hp.objs.size + 1) (exo (hp.objs.size + 1) (He.ga X.K x) none)) (fun y H2 => y = .non ∧ Q (.ref (hp.objs.size + 1)) H2) (fun _ _ _ => False) :=
    ⟨_, v, rfl, upd_same, fun dx hdx hne => ⟨rfl, keep_got s2 r1 free hdx hne hq1⟩⟩
  have rv2 : Vals [V.ref (hp.objs.size + 1), v] [Value.ref (hp.objs.size + 1), u] := .cons rfl (.cons ru .nil)
  have bd := hK.to ⟨hp2, ge, dr, tk, os⟩ [Value.ref (hp.objs.size + 1)] [u] I2.kIn rfl rfl
  have rn := h3.run _ X.stack _ _ ⟨[Value.ref (hp.objs.size + 1)], [f].zip [u]⟩ [Value.ref (hp.objs.size + 1), u] _ _ (fun _ _ _ => False) ((cc.hr.mono hj).make (He.ga X.K x) [] ([f].zip [u])) (I2.env0.make (He.ga X.K x) [] ([f].zip [u])) bd rv2 sat
  have nox : Passes (L2.CX X.prog X.w) X fun _ _ _ => False := passes_call cc.tk fun _ _ _ _ h => h.elim
  refine wpAny_call (kwx_call PySem.F.excBase_ValueError (PySem.HandSPX.refsVE_contains · bm0 ve) (I1.kIn _ _ atC) (PySem.W.looks_findIn I1.kIn h1) (PySem.W.bind_fn I1.kIn · h2) (codeAny_mono rn fun r s' hq => ?_))
  match r, hq with
  | .error er, hq => exact nox pins σ _ _ er s' I2 hq
  | .ok (.ret u), hq =>
    obtain ⟨v, σH, J, ru, ev, q⟩ := I2.after hq
    subst ev
    exact ⟨ru, .ref (hp.objs.size + 1), σH, J, rfl, q⟩
  | .ok .next, hq => exact hq.elim
  | .ok .brk, hq => exact hq.elim
  | .ok .cont, hq => exact hq.elim
end
end PM

namespace PM
open PySem PySem.Spec PyProof.Rows L2
/-! ### a dict of one text key -/
def eDa (k : Str) (i : Nat) : EF := fun e M => match e[i]? with
  | some (.val d) => .ok (.dcs k d) e M
  | _ => .bad
section
variable {X : Cx} {nm : Nm} {W : WX} {pos : Pos}
theorem wDa {k x : Str} {i : Nat} {j} {pk px : Pos} (hN : X.N[i]? = some x := by rfl) (hv : Vis X.env.scope x := by first | exact .inl rfl | exact .inr (.inl rfl) | exact .inr (.inr rfl)) (hd : (x == ("__debug__" : Str)) = false := by decide) (hc : (x == ("__classdict__" : Str)) = false := by decide) :
    PE X (.Dict [some (.Constant (.str k) j pk)] [.Name x px] pos) (tE nm X.K W (eDa k i)) := by
  refine (pe_disp (pps_cons pe_str (pe_var hN hv hd hc) pps_nil) rfl rfl (by simp) (by simp)).imp fun σ H Q ⟨fr, ρ, G, e, M, s, h⟩ => ?_
  intro p hp
  show ∃ v, σ[i]? = some (some v) ∧ _
  unfold eDa at h
  split at h
  · rename_i d hd
    obtain ⟨v, h1, h2⟩ := s.vals i d hd
    refine ⟨v, h1, upd_same, [(Sum.inr k, v)], rfl, by simp, ?_⟩
    have e1 : mergeK [] [((Sum.inr k : L2.Key), v)] = [(Sum.inr k, v)] := rfl
    rw [e1, upd_upd]
    have g := Same.upd (o := HO.dK [(Sum.inr k, v)]) (s.wf.none_of hp)
    exact h (.ref p) _ _ ρ g (Pre.refl _) (s.alloc hp (.dK [(Sum.inr k, v)])) (.dcs upd_same (h2.mono g (Pre.refl _)))
  · exact h.elim
/-! ### repr of more things -/
def reprD (k : Str) (i : Int) : Str := (PyData.dict [(.str k, .int i)]).shown
def reprG : List D → Option D
  | [.non] => some (.str "None")
  | [.int i] => if smD (.int i) then some (.str (toString i)) else none
  | [.str x] => if smD (.str x) then some (.str (PyData.shown (.str x))) else none
  | [.dcs k (.int i)] => if smD (.str k) && smD (.int i) then some (.str (reprD k i)) else none
  | l => reprC l
theorem b_reprG (hg : X.A.guards = some []) (hu : X.A.units + 65 < cLine) : CallR X (.builtin "repr") (rBi X.K reprG) := by
  intro pins s σ H xs us Q I rv ⟨ρ, G, ds, d, hs, r, h, q⟩
  unfold reprG at h
  split at h
  · cases h
    obtain ⟨v, rfl, rd⟩ := r.one
    cases rd
    obtain ⟨u, rfl, rfl⟩ := vals1 rv
    exact PySem.P.repr_of_none ⟨.str _, H, I.tok _, ⟨_, rfl⟩, q.sc (.str _)⟩
  · rename_i i
    rw [Option.ite_none_right_eq_some] at h
    obtain ⟨hc, h⟩ := h
    cases h
    obtain ⟨v, rfl, rd⟩ := r.one
    cases rd
    obtain ⟨u, rfl, ru⟩ := vals1 rv
    obtain ⟨t, rfl⟩ := ru
    have hi := of_decide_eq_true (smD_show _ hc).1
    exact PySem.P.repr_of_int hi ⟨.str _, H, I.tok _, ⟨_, rfl⟩, q.sc (.str _)⟩
  · rename_i x
    rw [Option.ite_none_right_eq_some] at h
    obtain ⟨hc, h⟩ := h
    cases h
    obtain ⟨v, rfl, rd⟩ := r.one
    cases rd
    obtain ⟨u, rfl, ru⟩ := vals1 rv
    obtain ⟨t, rfl⟩ := ru
    have hsz : (PyData.shown (.str x)).length ≤ sizeLine := by
      have h2 := (smD_show _ hc).2
      have lay : (D.str x).toP.canLay0 = true := (toP_lay (.str x) (smD_data _ hc)).1
      have := PyData.shown_le 40 (by decide) (.str x) (PyData.leavesShort_of_canLay0 40 (.str x) lay h2.1)
      have h3 : PyData.weight (.str x) + 1 ≤ 201 * 1 := h2.2
      rw [sizeLine_eq]; omega
    exact PySem.P.repr_of_str ⟨.str _, H, I.tok _, ⟨_, rfl⟩, q.sc (.str _)⟩ hsz
  · rename_i k i
    rw [Option.ite_none_right_eq_some] at h
    obtain ⟨hc, h⟩ := h
    cases h
    rw [Bool.and_eq_true] at hc
    obtain ⟨v, rfl, rd⟩ := r.one
    cases rd with
    | @dcs a _ _ v e1 r1 =>
    cases r1
    obtain ⟨u, rfl, ru⟩ := vals1 rv
    obtain rfl : u = Value.ref a := ru
    obtain ⟨_, ns, vs, kv, o, es, ep, ho, ex, hd, _, pr, _⟩ := (show ObjOk X.prog X.w H s.heap a (.dK [(Sum.inr k, .int i)]) from I.hok a _ (hs _ _ e1))
    cases kv with
    | @cons _ q1 _ _ kq kr =>
    cases kr
    obtain ⟨k1, k2⟩ := kq
    obtain ⟨q1a, q1b⟩ := q1
    obtain rfl : Sum.inr k = q1a := k1
    obtain ⟨t, rfl⟩ : ∃ t, q1b = Value.int i t := k2
    generalize hes : es.toList = L at pr
    cases pr with
    | @cons en _ L2 _ p1 p2 p3 =>
    cases p3
    obtain ⟨_, _, z, _⟩ | ⟨x, t2, z, ek⟩ := keyIs_shape (show keyIs (Sum.inr k) en.key = true from p1)
    · cases z
    cases z
    have p2 : en.val = Value.int i t := p2
    have rk : ReadsAll s.heap (es.toList.map (·.key)) [PyData.str k] [] := by rw [hes]; show ReadsAll s.heap [en.key] _ _; rw [ek]; exact .cons (.str _ _) .nil
    have rw2 : ReadsAll s.heap (es.toList.map (·.val)) [PyData.int i] [] := by rw [hes]; show ReadsAll s.heap [en.val] _ _; rw [p2]; exact .cons (.int _ _) .nil
    have rd : Reads s.heap (.ref a) (.dict [(.str k, .int i)]) (a :: [] ++ []) := Reads.dict ho ex.1 hd rk rw2
    have hk := (smD_show _ hc.1).2
    have hi := smD_show _ hc.2
    have layk : (D.str k).toP.canLay0 = true := (toP_lay (.str k) (smD_data _ hc.1)).1
    have hl : PyData.leavesShort 40 (.dict [(.str k, .int i)]) = true := by
      have a1 := PyData.leavesShort_of_canLay0 40 (.str k) layk hk.1
      have a2 : PyData.leavesShort 40 (.int i) = true := hi.2.1
      simp only [PyData.leavesShort, PyData.leavesShortKv, Bool.and_eq_true, and_true] at a1 a2 ⊢
      exact ⟨a1, a2⟩
    have hsz : (PyData.dict [(.str k, .int i)]).shown.length ≤ sizeLine := by
      have b1 := PyData.shown_le 40 (by decide) (.dict [(.str k, .int i)]) hl
      have b2 : PyData.weight (.str k) + 1 ≤ 201 * 1 := hk.2
      have b3 : PyData.weight (.int i) + 1 ≤ 201 * 1 := hi.2.2
      have b4 : PyData.weight (.dict [(.str k, .int i)]) = PyData.weight (.str k) + PyData.weight (.int i) + 2 + 0 := rfl
      rw [b4] at b1
      rw [sizeLine_eq]; omega
    refine repr_of_reads' rd ?_ (fun _ z => ?_) hg (show X.A.units + (1 + 1) < cLine by omega) (fun _ _ e => e) (fun h' u tk hk => ⟨.str _, H, I.kept hk, ⟨_, rfl⟩, q.sc (.str _)⟩) hsz
    · have := hi.1
      simp only [PyData.showable, PyData.showableKv, Bool.and_true, Bool.true_and]
      exact this
    · have e2 : sysModules = a := by simpa using z
      rw [← e2] at ns
      simp at ns
  · exact b_repr hg hu pins s σ H xs us Q I rv ⟨ρ, G, _, d, hs, r, h, q⟩
end
end PM

namespace PM
open PySem PySem.Spec PyProof.Rows L2 He
/-! ### what the head tells of kept exceptions, as Bools -/
def isxB (K : Frg) (tv : Value) (tb : List (Str × Bool)) : Bool := tb.all fun p => excCB K (ga K p.1) && decide (PySem.W.kitOne K (.ref (ga K p.1)) tv = some p.2)
theorem mem_lookup {c : Str} {b : Bool} : ∀ {tb : List (Str × Bool)}, tb.lookup c = some b → (c, b) ∈ tb
  | [], h => by cases h
  | (d, x) :: r, h => by
    by_cases e : c = d
    · subst e
      have : b = x := by simpa using h.symm
      subst this
      exact List.mem_cons_self
    · have q : (c == d) = false := by simpa using e
      exact List.mem_cons_of_mem _ (mem_lookup (by simpa [List.lookup, q] using h))
theorem isxB_ok {K : Frg} {tv : Value} {tb : List (Str × Bool)} (h : isxB K tv tb = true) : IsX K tv tb := ⟨fun c b e => by
  obtain ⟨h1, h2⟩ := ba (List.all_eq_true.mp h _ (mem_lookup e))
  exact ⟨excCB_ok h1, of_decide_eq_true h2⟩⟩
def fxB (K : Frg) (l : List Str) (f : Str) : Bool := l.all fun c => xfB K (ga K c) && decide (PySem.W.findIn K (.ref (ga K c)) f = some none)
theorem fxB_ok {K : Frg} {l : List Str} {f : Str} (h : fxB K l f = true) : FX K l f := ⟨fun c e => by
  obtain ⟨h1, h2⟩ := ba (List.all_eq_true.mp h _ e)
  exact ⟨xfB_ok h1, of_decide_eq_true h2⟩⟩
end PM

namespace PM
open PySem PySem.Spec PyProof.Rows L2
/-! ### a != b of two texts, whatever they hold -/
def tNeS (a b : EF) : TF := fun e M => (a e M).bind fun x e M => (b e M).bind fun y e M => match x, y with
  | .str s, .str t => .ok (!decide (s = t)) e M
  | _, _ => .bad
section
variable {X : Cx} {nm : Nm} {W : WX} {pos : Pos} {a b : Expr} {fa fb : EF}
theorem wTNeS (ha : PE X a (tE nm X.K W fa)) (hb : PE X b (tE nm X.K W fb)) (hm : behindInMarks .NotEq b = false := by rfl) : PT X (.Compare a [.NotEq] [b] pos) (tT nm X.K W (tNeS fa fb)) := by
  refine (pt_cmpR op_ne ha hb hm).imp fun σ H Q ⟨fr, ρ, G, e, M, s, h⟩ => ?_
  show tTest _ σ H Q
  refine tE.bind gdT_mono s h fun ρ1 G1 e1 M1 d1 v1 H1 g1 p1 s1 r1 h1 => ?_
  refine tE.bind gdT_mono s1 h1 fun ρ2 G2 e2 M2 d2 v2 H2 g2 p2 s2 r2 h2 => ?_
  cases r1 with
  | str x =>
    cases r2 with
    | str y => exact ⟨rfl, _, rfl, by simpa using h2 H2 G2 ρ2 (Same.refl _) (Pre.refl _) s2⟩
    | _ => exact h2.elim
  | _ => cases r2 <;> exact h2.elim
end
end PM

namespace PM
open PySem PySem.Spec PyProof.Rows L2
/-! ### list.count of bools -/
def eqb (k : Bool) (v : Value) : Bool := match v with
  | .bool n => n == k
  | _ => false
theorem vals_bl : ∀ {us : List Value} {ns : List Bool}, Vals (ns.map V.bl) us → us = ns.map Value.bool
  | [], [], _ => rfl
  | _ :: _, [], h => by cases h
  | [], _ :: _, h => by cases h
  | u :: us, n :: ns, h => by
    cases h with
    | cons a b =>
      obtain rfl : u = Value.bool n := a
      rw [vals_bl b]; rfl
def rCntB (K : Frg) : V → List V → Hp → VK → Prop := fun x xs H Q => ∃ (p : Addr) (ns : List Bool) (k : Bool), x = .ref p ∧ xs = [.bl k] ∧ SqL K H p (ns.map V.bl) ∧ Q (.int (ns.count k : Nat)) H
theorem mt_bcount {X : Cx} : MtR X "list.count" (rCntB X.K) := by
  intro pins s σ H x xs v us Q I rx rxs h
  obtain ⟨p, ns, k, rfl, rfl, hs, q⟩ := h
  cases rx
  obtain ⟨u, rfl, ru⟩ := rxs.one
  obtain rfl : u = Value.bool k := ru
  obtain ⟨its, rv, ⟨⟨cls, dd, data, sl⟩, n, ho, hc, hdn, hd⟩, hlen⟩ := I.list hs
  simp only at hc hd
  subst hc hd
  obtain rfl := vals_bl rv
  refine call_meets PySem.F.slot_list_count ⟨_, ho, rfl⟩ PySem.F.entry_list_count (PySem.F.args_list_count_2 _ _)
    (SeqAt.list_countAt p (ns.map Value.bool).toArray n dd sl (.bool k) (eqb k)) ⟨ho, fun y hy => ?_, ?_⟩
  · obtain ⟨b, _, rfl⟩ := List.mem_map.mp (by simpa using hy : y ∈ ns.map Value.bool)
    exact SeqAt.EqAt.bool_bool b k
  · have ec : ∀ l : List Bool, (l.map Value.bool).countP (eqb k) = l.count k := fun l => by
      induction l with
      | nil => rfl
      | cons a r ih => rw [List.map_cons, List.countP_cons, List.count_cons, ih]; rfl
    refine ⟨.int (ns.count k : Nat), H, I.tok _, ⟨s.toks, ?_⟩, q⟩
    show Value.int ((((ns.map Value.bool).toArray).toList.countP (eqb k) : Nat) : Int) s.toks = Value.int ((ns.count k : Nat) : Int) s.toks
    rw [List.toList_toArray, ec]
end PM

namespace PM
open PySem PySem.Spec PyProof.Rows L2 LamX
/-- x = None; try: call() / except C as e: x = e; None, or [word, field] by three classes, by way of a list of flags -/
def TTr3 (C1 C2 C3 : Addr) (f1 f2 f3 w1 w2 w3 : Str) : (XK → Hp → VK → Prop) → Hp → VK → Prop := fun tl H Q => ∀ (E : XK) (R : VK), (∀ v H', Q .non H' → R v H') →
  (∀ cls d H', (∃ (D dd : Addr) (fs : List (Str × V)) (v : V) (f w : Str) (k1 k2 k3 : Bool), cls = .ref D ∧ ((D = C1 ∧ w = w1 ∧ f = f1 ∧ k1 = true ∧ k2 = false ∧ k3 = false) ∨ (D = C2 ∧ w = w2 ∧ f = f2 ∧ k1 = false ∧ k2 = true ∧ k3 = false) ∨ (D = C3 ∧ w = w3 ∧ f = f3 ∧ k1 = false ∧ k2 = false ∧ k3 = true)) ∧ d = some dd ∧ H' dd = some (.xd fs) ∧ fs.lookup f = some v ∧
    ∀ p q, H' p = none → upd H' p (.lst [.bl k1, .bl k2, .bl k3]) q = none → Q (.ref q) (upd (upd H' p (.lst [.bl k1, .bl k2, .bl k3])) q (.lst [.str w, v]))) → E cls d H') → tl E H R
theorem refu3_gives {X : Cx} {x q : Str} {sg : Scope} {g CX C1 C2 C3 : Addr} {cdg : Value} {a b e g0 f1 f2 f3 cx c1 c2 c3 w0 w1 w2 w3 : Str} {j1 j2 j3 j4 j5 j6 j7 j8 j9 j10 j11 : Nat} {p1 p2 p3 p4 p5 p6 p7 p8 p9 p10 p11 p12 p13 p14 p15 p16 p17 p18 p19 p20 p21 p22 p23 p24 p25 p26 p27 p28 p29 p30 p31 p32 p33 p34 p35 p36 p37 p38 p39 p40 p41 p42 p43 p44 p45 p46 p47 p48 p49 p50 p51 p52 p53 p54 p55 p56 p57 p58 p59 p60 p61 p62 p63 p64 p65 p66 p67 p68 p69 p70 p71 : Pos}
    (hnd : [a, b, e, g0].Nodup) (hlb : sg.names.lookup b = some .local) (hle : sg.names.lookup e = some .local) (hlg : sg.names.lookup g0 = some .local) (gx : sg.names.lookup cx = some .globalImplicit) (g1 : sg.names.lookup c1 = some .globalImplicit) (g2 : sg.names.lookup c2 = some .globalImplicit) (g3 : sg.names.lookup c3 = some .globalImplicit) (gi : sg.names.lookup ("isinstance" : Str) = some .globalImplicit) (gv : sg.names.lookup ("ValueError" : Str) = some .globalImplicit)
    (mx : X.mg cx = some (.ref CX)) (m1 : X.mg c1 = some (.ref C1)) (m2 : X.mg c2 = some (.ref C2)) (m3 : X.mg c3 = some (.ref C3)) (mi : X.mg "isinstance" = none) (mv : X.mg "ValueError" = none) (dx : (cx == ("__debug__" : Str)) = false) (d1 : (c1 == ("__debug__" : Str)) = false) (d2 : (c2 == ("__debug__" : Str)) = false) (d3 : (c3 == ("__debug__" : Str)) = false)
    (b1 : (b == ("__debug__" : Str)) = false) (b2 : (b == ("__classdict__" : Str)) = false) (e1 : (e == ("__debug__" : Str)) = false) (e2 : (e == ("__classdict__" : Str)) = false) (k1 : (g0 == ("__debug__" : Str)) = false) (k2 : (g0 == ("__classdict__" : Str)) = false) (x1 : Xk X.K CX C1 f1) (x2 : Xk X.K CX C2 f2) (x3 : Xk X.K CX C3 f3)
    (q11 : PySem.W.kitOne X.K (.ref C1) (.ref C1) = some true) (q12 : PySem.W.kitOne X.K (.ref C1) (.ref C2) = some false) (q13 : PySem.W.kitOne X.K (.ref C1) (.ref C3) = some false) (q21 : PySem.W.kitOne X.K (.ref C2) (.ref C1) = some false) (q22 : PySem.W.kitOne X.K (.ref C2) (.ref C2) = some true) (q23 : PySem.W.kitOne X.K (.ref C2) (.ref C3) = some false)
    (q31 : PySem.W.kitOne X.K (.ref C3) (.ref C1) = some false) (q32 : PySem.W.kitOne X.K (.ref C3) (.ref C2) = some false) (q33 : PySem.W.kitOne X.K (.ref C3) (.ref C3) = some true) (v1 : PySem.W.kitOne X.K (.ref C1) (.type "ValueError") = some true) (v2 : PySem.W.kitOne X.K (.ref C2) (.type "ValueError") = some true) (v3 : PySem.W.kitOne X.K (.ref C3) (.type "ValueError") = some true)
    (s1 : ∀ env, swapsWith (.Constant .none j11 p61) (some (.Name b p60)) p62.line env = pure false) (s2 : ∀ env, swapsWith (.Call (.Name a p63) [] [] p64) none p65.line env = pure false) (s3 : ∀ env, swapsWith (.Name e p68) (some (.Name b p67)) p69.line env = pure false)
    (s4 : ∀ env, swapsWith (.List [(.Call (.Name "isinstance" p7) [(.Name b p8), (.Name c1 p9)] [] p10), (.Call (.Name "isinstance" p11) [(.Name b p12), (.Name c2 p13)] [] p14), (.Call (.Name "isinstance" p15) [(.Name b p16), (.Name c3 p17)] [] p18)] p19) (some (.Name g0 p20)) p21.line env = pure false) (t0 : ∀ env, attributeBase (.Name g0 p22) "count" env (eval (.Name g0 p22) env) = eval (.Name g0 p22) env) (tl0 : (p23.endLine == p24.line) = true)
    (t1 : (∀ env, attributeBase (.Name b p42) f1 env (eval (.Name b p42) env) = eval (.Name b p42) env)) (t2 : (∀ env, attributeBase (.Name b p51) f2 env (eval (.Name b p51) env) = eval (.Name b p51) env)) (t3 : (∀ env, attributeBase (.Name b p55) f3 env (eval (.Name b p55) env) = eval (.Name b p55) env)) :
    GivesTo X [a, b, e, g0] x sg g cdg [.Assign [.Name b p60] (.Constant .none j11 p61) p62, .Try [.Expr (.Call (.Name a p63) [] [] p64) p65] [.ExceptHandler (some (.Name cx p66)) (some e) [.Assign [.Name b p67] (.Name e p68) p69] p70] [] [] p71,
      .If (.Compare (.Name b p1) [.Is] [(.Constant .none j1 p2)] p3) [.Return (some (.Constant .none j2 p4)) p5] [] p6,
      .Assign [.Name g0 p20] (.List [(.Call (.Name "isinstance" p7) [(.Name b p8), (.Name c1 p9)] [] p10), (.Call (.Name "isinstance" p11) [(.Name b p12), (.Name c2 p13)] [] p14), (.Call (.Name "isinstance" p15) [(.Name b p16), (.Name c3 p17)] [] p18)] p19) p21,
      .If (.BoolOp .Or [.Compare (.Call (.Attribute (.Name g0 p22) "count" p23) [(.Constant (.bool true) j3 p25)] [] p24) [.NotEq] [(.Constant (.int 1) j4 p26)] p27, .UnaryOp .Not (.Call (.Name "isinstance" p28) [(.Name b p29), (.Name ("ValueError" : Str) p30)] [] p31) p32] p33) [.Return (some (.List [(.Constant (.str w0) j5 p34)] p35)) p36] [] p37,
      .If (.Subscript (.Name g0 p38) (.Constant (.int 0) j6 p39) p40) [.Return (some (.List [(.Constant (.str w1) j7 p41), (.Attribute (.Name b p42) f1 p43)] p44)) p45] [] p46,
      .Return (some (.IfExp (.Subscript (.Name g0 p47) (.Constant (.int 1) j8 p48) p49) (.List [(.Constant (.str w2) j9 p50), (.Attribute (.Name b p51) f2 p52)] p53) (.List [(.Constant (.str w3) j10 p54), (.Attribute (.Name b p55) f3 p56)] p57) p58)) p59] a q (TTr3 C1 C2 C3 f1 f2 f3 w1 w2 w3) := by
  intro fl c' s H Q tl act hc h
  let Xc : Cx := (cxOf C8.CX0 X.prog X.w X.K X.mg X.base [a, b, e, g0] x sg g cdg X.A X.stack s H C8.E0).nox
  have vb : Vis sg b := .inl hlb
  have ve : Vis sg e := .inl hle
  have vg : Vis sg g0 := .inl hlg
  have isN : ∀ {Y : Cx} {p p' p'' : Pos} {j : Nat}, Y.N = [a, b, e, g0] → Y.env.scope = sg → PT Y (.Compare (.Name b p) [.Is] [.Constant .none j p'] p'') (tTest (tOp (fun x y H Q => y = .non ∧ Q (.bl (decide (x = .non))) H) (fun σ H Q => σ.length = 4 → tVar 1 σ H Q) (tC .non))) := fun {Y p p' p'' j} h1 h2 => by
    have q := gl_len (X := Y) (i := 1) (x := b) (p := p) (by rw [h1]; rfl) (by rw [h2]; exact vb) b1 b2
    have e : Y.N.length = 4 := by rw [h1]; rfl
    rw [e] at q
    exact pt_cmpR op_isN q pe_non rfl
  let restL : List Stmt := [.If (.Compare (.Name b p1) [.Is] [(.Constant .none j1 p2)] p3) [.Return (some (.Constant .none j2 p4)) p5] [] p6,
      .Assign [.Name g0 p20] (.List [(.Call (.Name "isinstance" p7) [(.Name b p8), (.Name c1 p9)] [] p10), (.Call (.Name "isinstance" p11) [(.Name b p12), (.Name c2 p13)] [] p14), (.Call (.Name "isinstance" p15) [(.Name b p16), (.Name c3 p17)] [] p18)] p19) p21,
      .If (.BoolOp .Or [.Compare (.Call (.Attribute (.Name g0 p22) "count" p23) [(.Constant (.bool true) j3 p25)] [] p24) [.NotEq] [(.Constant (.int 1) j4 p26)] p27, .UnaryOp .Not (.Call (.Name "isinstance" p28) [(.Name b p29), (.Name ("ValueError" : Str) p30)] [] p31) p32] p33) [.Return (some (.List [(.Constant (.str w0) j5 p34)] p35)) p36] [] p37,
      .If (.Subscript (.Name g0 p38) (.Constant (.int 0) j6 p39) p40) [.Return (some (.List [(.Constant (.str w1) j7 p41), (.Attribute (.Name b p42) f1 p43)] p44)) p45] [] p46,
      .Return (some (.IfExp (.Subscript (.Name g0 p47) (.Constant (.int 1) j8 p48) p49) (.List [(.Constant (.str w2) j9 p50), (.Attribute (.Name b p51) f2 p52)] p53) (.List [(.Constant (.str w3) j10 p54), (.Attribute (.Name b p55) f3 p56)] p57) p58)) p59]
  refine ⟨_, pss_cons (ps_set (X := Xc) (i := 1) (x := b) hnd rfl (.inl hlb) pe_non (s1 _) (.inr hlb)) (pss_try_keep (X := Xc) (i := 2) (n := e) (c := .ref CX) (rest := restL)
      (tb := fun W D σ H => ∃ Ech : XK, (∀ cls d σ' H', Ech cls d H' → W cls d σ' H') ∧ σ[0]? = some (some (.ref fl)) ∧ H c' = some (CodeO c' q) ∧ tl Ech H fun v H' => D.nx σ H')
      (ts := fun a' cls d => tAsg (fun σ H Q => σ.length = 4 → tVar 2 σ H Q) (gName 1))
      (tr := fun a' cls d D σ H => ∃ t : TS, (∀ oe, Zc cls d oe → (∃ vs, oe.data = .fields vs) → PSs (pinned Xc (a', oe)) restL t) ∧ t D σ H)
      rfl rfl (show [a, b, e, g0].Nodup from hnd) rfl hle ⟨gx, dx, .inl mx⟩ LamX.takes0 (fun W pn xe tk _ => ?_) (fun a' oe cls d pn hz hf => ?_) (fun a' oe cls d hz hf => ⟨fun pins s σ H D I ⟨t, ht, h⟩ => (ht oe hz hf).run pins s σ H D I h⟩)
      (pss_cons (ps_if (isN rfl rfl) (pss_one (ps_ret pe_non)) pss_nil) pss_never)), ?_⟩
  · refine ⟨fun pins s' σ H' D I h' => ?_⟩
    obtain ⟨Ech, hW, h1, h2, h3⟩ := h'
    have hp := act W pn xe Ech p63 p64 tk hW
    exact (pss_one (ps_expr hp (s2 _))).run pins s' σ H' D I ⟨h1, h2, h3⟩
  · exact pss_one (ps_set (i := 1) (x := b) hnd rfl (.inl hlb) (pe_len (pe_var (i := 2) rfl ve e1 e2)) (s3 _) (.inr hlb))
  · refine ⟨fun cls d H' => ∃ (D dd : Addr) (fs : List (Str × V)) (v : V) (f w : Str) (k1 k2 k3 : Bool), cls = .ref D ∧ ((D = C1 ∧ w = w1 ∧ f = f1 ∧ k1 = true ∧ k2 = false ∧ k3 = false) ∨ (D = C2 ∧ w = w2 ∧ f = f2 ∧ k1 = false ∧ k2 = true ∧ k3 = false) ∨ (D = C3 ∧ w = w3 ∧ f = f3 ∧ k1 = false ∧ k2 = false ∧ k3 = true)) ∧ d = some dd ∧ H' dd = some (.xd fs) ∧ fs.lookup f = some v ∧
      ∀ p q, H' p = none → upd H' p (.lst [.bl k1, .bl k2, .bl k3]) q = none → Q (.ref q) (upd (upd H' p (.lst [.bl k1, .bl k2, .bl k3])) q (.lst [.str w, v])), fun cls d σ' H' hE => ?_, rfl, hc, h _ _ (fun v H' hQ => ?_) fun _ _ _ z => z⟩
    rotate_left
    · exact fun _ => ⟨.non, rfl, rfl, true, rfl, hQ⟩
    obtain ⟨D, dd, fs, v, f, w, k1', k2', k3', rfl, hw, rfl, hx, hl, hq⟩ := hE
    have one : ∀ C u, L2.RelV (.ref C) u → u = Value.ref C := fun C u r => r
    have ty1 : ∀ u, L2.RelV (.ty "ValueError") u → u = Value.type "ValueError" := fun u r => r
    have l3 : ∀ {a' : Addr} {n : Nat}, (((σ'.set 2 (some (V.ref a'))).set 1 (some (V.ref a'))).set 2 none).length = n → σ'.length = n := fun n => by simpa using n
    have sl : ∀ {a' : Addr} (n : σ'.length = 4), (((σ'.set 2 (some (V.ref a'))).set 1 (some (V.ref a'))).set 2 none)[1]? = some (some (.ref a')) := fun n => by
      rw [List.getElem?_set_ne (by decide), List.getElem?_set_self (by rw [List.length_set]; omega)]
    have sl3 : ∀ {a' p : Addr} (n : σ'.length = 4), ((((σ'.set 2 (some (V.ref a'))).set 1 (some (V.ref a'))).set 2 none).set 3 (some (V.ref p)))[3]? = some (some (.ref p)) := fun n => by
      rw [List.getElem?_set_self (by simp; omega)]
    have sl1 : ∀ {a' p : Addr} (n : σ'.length = 4), ((((σ'.set 2 (some (V.ref a'))).set 1 (some (V.ref a'))).set 2 none).set 3 (some (V.ref p)))[1]? = some (some (.ref a')) := fun n => by
      rw [List.getElem?_set_ne (by decide)]; exact sl n
    have ise : ∀ {a' : Addr} {oe : Obj} {p p' p'' p4 : Pos} {c : Str} {C : Addr}, ExcC X.K D → Zc (.ref D) (some dd) oe → (∃ vs, oe.data = .fields vs) → sg.names.lookup c = some .globalImplicit → X.mg c = some (.ref C) → (c == ("__debug__" : Str)) = false →
        PE (pinned Xc (a', oe)) (.Call (.Name "isinstance" p) [.Name b p', .Name c p''] [] p4) (tCB (rIsP X.K D a' dd) (tCons (fun σ H Q => σ.length = 4 → tVar 1 σ H Q) (tCons (tC (.ref C)) tNil))) := fun {a' oe p p' p'' p4 c C} hX hz hf hg hm hd =>
      pe_callB (call_isP hX hz hf) (show Gl (pinned Xc (a', oe)) "isinstance" from gi) mi rfl (pa_cons (gl_len (X := pinned Xc (a', oe)) rfl vb b1 b2) (pa_cons (pe_glob (X := pinned Xc (a', oe)) hg hm (show L2.RelV (.ref C) (.ref C) from rfl) hd) pa_nil))
    have isv : ∀ {a' : Addr} {oe : Obj} {p p' p'' p4 : Pos}, ExcC X.K D → Zc (.ref D) (some dd) oe → (∃ vs, oe.data = .fields vs) →
        PE (pinned Xc (a', oe)) (.Call (.Name "isinstance" p) [.Name b p', .Name ("ValueError" : Str) p''] [] p4) (tCB (rIsP X.K D a' dd) (tCons (fun σ H Q => σ.length = 4 → tVar 1 σ H Q) (tCons (tC (.ty "ValueError")) tNil))) := fun {a' oe p p' p'' p4} hX hz hf =>
      pe_callB (call_isP hX hz hf) (show Gl (pinned Xc (a', oe)) "isinstance" from gi) mi rfl (pa_cons (gl_len (X := pinned Xc (a', oe)) rfl vb b1 b2) (pa_cons (pe_bltn (X := pinned Xc (a', oe)) gv mv (by rfl) (show RelV (.ty "ValueError") (.type "ValueError") from rfl) (by decide) (by decide)) pa_nil))
    have fvar : ∀ {a' : Addr} {oe : Obj} {p : Pos}, PE (pinned Xc (a', oe)) (.Name g0 p) (fun σ H Q => σ.length = 4 → tVar 3 σ H Q) := fun {a' oe p} => gl_len (X := pinned Xc (a', oe)) (i := 3) rfl vg k1 k2
    have fld : ∀ {a' : Addr} {oe : Obj} {p p' : Pos}, XfC X.K D → PySem.W.findIn X.K (.ref D) f = some none → (∀ env, attributeBase (.Name b p) f env (eval (.Name b p) env) = eval (.Name b p) env) → Zc (.ref D) (some dd) oe → (∃ vs, oe.data = .fields vs) → PE (pinned Xc (a', oe)) (.Attribute (.Name b p) f p') (tXp a' D dd f (fun σ H Q => σ.length = 4 → tVar 1 σ H Q)) := fun hX hn ht hz hf =>
      pe_xp hX hn hz hf (gl_len (X := pinned Xc (_, _)) rfl vb b1 b2) (ht _)
    have no : ∀ {Y : Cx} {e : Expr}, PE Y e (fun _ _ _ => False) := ⟨fun _ _ _ _ _ _ h => h.elim⟩
    have cntE : ∀ {a' : Addr} {oe : Obj}, PE (pinned Xc (a', oe)) (.Call (.Attribute (.Name g0 p22) "count" p23) [(.Constant (.bool true) j3 p25)] [] p24) (tBM X.K "list" (rCntB X.K) (fun σ H Q => σ.length = 4 → tVar 3 σ H Q) (tCons (tC (.bl true)) tNil)) := fun {a' oe} =>
      pe_bm PySem.F.plainAttrs_list PySem.F.slot_list_count PySem.F.type_list_count mt_bcount fvar (pa_cons pe_bl pa_nil) (t0 _) (by rfl) tl0
    refine ⟨true, ?_, fun _ a' ha' hl2 => ⟨.ref a', ?_, ?_⟩, fun z => by cases z⟩
    · rcases hw with ⟨rfl, _⟩ | ⟨rfl, _⟩ | ⟨rfl, _⟩
      · exact x1.one
      · exact x2.one
      · exact x3.one
    · rw [List.getElem?_set_self]
      rw [List.length_set] at hl2
      omega
    rcases hw with ⟨rfl, rfl, rfl, rfl, rfl, rfl⟩ | ⟨rfl, rfl, rfl, rfl, rfl, rfl⟩ | ⟨rfl, rfl, rfl, rfl, rfl, rfl⟩
    · refine ⟨_, fun oe hz hf => pss_cons (ps_if (isN rfl rfl) (pss_one (ps_ret pe_non)) pss_nil)
        (pss_cons (ps_set (X := pinned Xc (a', oe)) (i := 3) (x := g0) hnd rfl (.inl hlg) (pe_lst (pa_cons (ise x1.ex hz hf g1 m1 d1) (pa_cons (ise x1.ex hz hf g2 m2 d2) (pa_cons (ise x1.ex hz hf g3 m3 d3) pa_nil)))) (s4 _) (.inr hlg))
        (pss_cons (ps_if (pw_or (pt_cmpR op_ne cntE pe_int rfl) (pw_or1 (pt_not (pt_val (isv x1.ex hz hf))))).pt (pss_one (ps_ret (pe_lst (pa_cons pe_str pa_nil)))) pss_nil)
        (pss_cons (ps_if (pt_val (pe_ix (r := rIxL X.K) (ix_list (X := pinned Xc (a', oe))) fvar pe_int (by intro _ _; rfl))) (pss_one (ps_ret (pe_lst (pa_cons pe_str (pa_cons (fld x1.xf x1.no t1 hz hf) pa_nil))))) pss_nil)
        (pss_one (ps_ret (pe_ifExp (pt_val (pe_ix (r := rIxL X.K) (ix_list (X := pinned Xc (a', oe))) fvar pe_int (by intro _ _; rfl))) (pe_lst (pa_cons pe_str (pa_cons no pa_nil))) (pe_lst (pa_cons pe_str (pa_cons no pa_nil))))))))), ?_⟩
      refine fun n => ⟨.ref a', sl (l3 n), rfl, false, rfl, ?_⟩
      refine fun n => ⟨.ref a', sl (l3 n), .ref _, .ref _, _, fs, rfl, hx, one _, q11, fun n => ⟨.ref a', sl (l3 n), .ref _, .ref _, _, fs, rfl, hx, one _, q12, fun n => ⟨.ref a', sl (l3 n), .ref _, .ref _, _, fs, rfl, hx, one _, q13, by simp [sizeLine], fun p hp => ?_⟩⟩⟩
      have hx' : upd H' p (HO.lst [V.bl true, V.bl false, V.bl false]) dd = some (.xd fs) := by rw [upd_ne (ne_of_none hx hp)]; exact hx
      refine fun n2 => ⟨.ref p, sl3 (l3 n), ⟨.inl ⟨rfl, _, .inl (.inl upd_same)⟩, p, [true, false, false], true, rfl, rfl, .inl (.inl upd_same), rfl, false, rfl, ?_⟩⟩
      refine fun n3 => ⟨.ref a', sl1 (l3 n), .ty "ValueError", .type "ValueError", true, fs, rfl, hx', ty1, v1, true, rfl, ?_⟩
      refine fun n4 => ⟨.ref p, sl3 (l3 n), p, [V.bl true, V.bl false, V.bl false], 0, _, rfl, rfl, .inl (.inl upd_same), rfl, true, rfl, ?_⟩
      exact fun n5 => ⟨.ref a', sl1 (l3 n), rfl, fs, v, hx', hl, by simp [sizeLine], fun q hq' => hq p q hp hq'⟩
    · refine ⟨_, fun oe hz hf => pss_cons (ps_if (isN rfl rfl) (pss_one (ps_ret pe_non)) pss_nil)
        (pss_cons (ps_set (X := pinned Xc (a', oe)) (i := 3) (x := g0) hnd rfl (.inl hlg) (pe_lst (pa_cons (ise x2.ex hz hf g1 m1 d1) (pa_cons (ise x2.ex hz hf g2 m2 d2) (pa_cons (ise x2.ex hz hf g3 m3 d3) pa_nil)))) (s4 _) (.inr hlg))
        (pss_cons (ps_if (pw_or (pt_cmpR op_ne cntE pe_int rfl) (pw_or1 (pt_not (pt_val (isv x2.ex hz hf))))).pt (pss_one (ps_ret (pe_lst (pa_cons pe_str pa_nil)))) pss_nil)
        (pss_cons (ps_if (pt_val (pe_ix (r := rIxL X.K) (ix_list (X := pinned Xc (a', oe))) fvar pe_int (by intro _ _; rfl))) (pss_one (ps_ret (pe_lst (pa_cons pe_str (pa_cons no pa_nil))))) pss_nil)
        (pss_one (ps_ret (pe_ifExp (pt_val (pe_ix (r := rIxL X.K) (ix_list (X := pinned Xc (a', oe))) fvar pe_int (by intro _ _; rfl))) (pe_lst (pa_cons pe_str (pa_cons (fld x2.xf x2.no t2 hz hf) pa_nil))) (pe_lst (pa_cons pe_str (pa_cons no pa_nil))))))))), ?_⟩
      refine fun n => ⟨.ref a', sl (l3 n), rfl, false, rfl, ?_⟩
      refine fun n => ⟨.ref a', sl (l3 n), .ref _, .ref _, _, fs, rfl, hx, one _, q21, fun n => ⟨.ref a', sl (l3 n), .ref _, .ref _, _, fs, rfl, hx, one _, q22, fun n => ⟨.ref a', sl (l3 n), .ref _, .ref _, _, fs, rfl, hx, one _, q23, by simp [sizeLine], fun p hp => ?_⟩⟩⟩
      have hx' : upd H' p (HO.lst [V.bl false, V.bl true, V.bl false]) dd = some (.xd fs) := by rw [upd_ne (ne_of_none hx hp)]; exact hx
      refine fun n2 => ⟨.ref p, sl3 (l3 n), ⟨.inl ⟨rfl, _, .inl (.inl upd_same)⟩, p, [false, true, false], true, rfl, rfl, .inl (.inl upd_same), rfl, false, rfl, ?_⟩⟩
      refine fun n3 => ⟨.ref a', sl1 (l3 n), .ty "ValueError", .type "ValueError", true, fs, rfl, hx', ty1, v2, true, rfl, ?_⟩
      refine fun n4 => ⟨.ref p, sl3 (l3 n), p, [V.bl false, V.bl true, V.bl false], 0, _, rfl, rfl, .inl (.inl upd_same), rfl, false, rfl, ?_⟩
      refine fun n5 => ⟨.ref p, sl3 (l3 n), p, [V.bl false, V.bl true, V.bl false], 1, _, rfl, rfl, .inl (.inl upd_same), rfl, true, rfl, ?_⟩
      exact fun n6 => ⟨.ref a', sl1 (l3 n), rfl, fs, v, hx', hl, by simp [sizeLine], fun q hq' => hq p q hp hq'⟩
    · refine ⟨_, fun oe hz hf => pss_cons (ps_if (isN rfl rfl) (pss_one (ps_ret pe_non)) pss_nil)
        (pss_cons (ps_set (X := pinned Xc (a', oe)) (i := 3) (x := g0) hnd rfl (.inl hlg) (pe_lst (pa_cons (ise x3.ex hz hf g1 m1 d1) (pa_cons (ise x3.ex hz hf g2 m2 d2) (pa_cons (ise x3.ex hz hf g3 m3 d3) pa_nil)))) (s4 _) (.inr hlg))
        (pss_cons (ps_if (pw_or (pt_cmpR op_ne cntE pe_int rfl) (pw_or1 (pt_not (pt_val (isv x3.ex hz hf))))).pt (pss_one (ps_ret (pe_lst (pa_cons pe_str pa_nil)))) pss_nil)
        (pss_cons (ps_if (pt_val (pe_ix (r := rIxL X.K) (ix_list (X := pinned Xc (a', oe))) fvar pe_int (by intro _ _; rfl))) (pss_one (ps_ret (pe_lst (pa_cons pe_str (pa_cons no pa_nil))))) pss_nil)
        (pss_one (ps_ret (pe_ifExp (pt_val (pe_ix (r := rIxL X.K) (ix_list (X := pinned Xc (a', oe))) fvar pe_int (by intro _ _; rfl))) (pe_lst (pa_cons pe_str (pa_cons no pa_nil))) (pe_lst (pa_cons pe_str (pa_cons (fld x3.xf x3.no t3 hz hf) pa_nil))))))))), ?_⟩
      refine fun n => ⟨.ref a', sl (l3 n), rfl, false, rfl, ?_⟩
      refine fun n => ⟨.ref a', sl (l3 n), .ref _, .ref _, _, fs, rfl, hx, one _, q31, fun n => ⟨.ref a', sl (l3 n), .ref _, .ref _, _, fs, rfl, hx, one _, q32, fun n => ⟨.ref a', sl (l3 n), .ref _, .ref _, _, fs, rfl, hx, one _, q33, by simp [sizeLine], fun p hp => ?_⟩⟩⟩
      have hx' : upd H' p (HO.lst [V.bl false, V.bl false, V.bl true]) dd = some (.xd fs) := by rw [upd_ne (ne_of_none hx hp)]; exact hx
      refine fun n2 => ⟨.ref p, sl3 (l3 n), ⟨.inl ⟨rfl, _, .inl (.inl upd_same)⟩, p, [false, false, true], true, rfl, rfl, .inl (.inl upd_same), rfl, false, rfl, ?_⟩⟩
      refine fun n3 => ⟨.ref a', sl1 (l3 n), .ty "ValueError", .type "ValueError", true, fs, rfl, hx', ty1, v3, true, rfl, ?_⟩
      refine fun n4 => ⟨.ref p, sl3 (l3 n), p, [V.bl false, V.bl false, V.bl true], 0, _, rfl, rfl, .inl (.inl upd_same), rfl, false, rfl, ?_⟩
      refine fun n5 => ⟨.ref p, sl3 (l3 n), p, [V.bl false, V.bl false, V.bl true], 1, _, rfl, rfl, .inl (.inl upd_same), rfl, false, rfl, ?_⟩
      exact fun n6 => ⟨.ref a', sl1 (l3 n), rfl, fs, v, hx', hl, by simp [sizeLine], fun q hq' => hq p q hp hq'⟩

end PM

namespace PM
open PySem PySem.Spec PyProof.Rows L2 LamX
/-- None where nothing came, [word, what the exception keeps] by its class, of three -/
def refuF3 (k1 k2 k3 f1 f2 f3 : Nat) (w1 w2 w3 : Str) : CO → CO
  | .ok _ M => .ok .non M
  | .err k (some (g, d)) M => if k = k1 ∧ g = f1 then .ok (.lst [.str w1, d]) M else if k = k2 ∧ g = f2 then .ok (.lst [.str w2, d]) M else if k = k3 ∧ g = f3 then .ok (.lst [.str w3, d]) M else .bad
  | _ => .bad
theorem refu3_nr {k1 k2 k3 f1 f2 f3 : Nat} {w1 w2 w3 : Str} : ∀ o k fv M, refuF3 k1 k2 k3 f1 f2 f3 w1 w2 w3 o ≠ .err k fv M := by
  intro o k fv M
  unfold refuF3
  split
  · intro z; cases z
  · split
    · intro z; cases z
    · split
      · intro z; cases z
      · split <;> (intro z; cases z)
  · intro z; cases z
theorem refuOk3 {nm : Nm} {K : Frg} {k1 k2 k3 f1 f2 f3 : Nat} {w1 w2 w3 : Str} : TTok nm K (TTr3 (nm.exc k1) (nm.exc k2) (nm.exc k3) (nm.fld f1) (nm.fld f2) (nm.fld f3) w1 w2 w3) (refuF3 k1 k2 k3 f1 f2 f3 w1 w2 w3) := by
  intro Q tl H G ρ o h1 h2 E R hR hE
  refine h1 E R ?_
  cases o with
  | bad => exact h2
  | ok d M => exact fun v H' G' ρ' kp wf rv => hR _ _ (h2 _ H' G' ρ' kp wf .non)
  | err k fv M =>
    intro H' G' ρ' dx kp wf er
    cases fv with
    | none => exact h2.elim
    | some fv =>
      obtain ⟨g, d⟩ := fv
      obtain ⟨dd, v, e1, e2, e3⟩ := er
      have e0 : refuF3 k1 k2 k3 f1 f2 f3 w1 w2 w3 (.err k (some (g, d)) M) = if k = k1 ∧ g = f1 then .ok (.lst [.str w1, d]) M else if k = k2 ∧ g = f2 then .ok (.lst [.str w2, d]) M else if k = k3 ∧ g = f3 then .ok (.lst [.str w3, d]) M else .bad := rfl
      rw [e0] at h2
      have fin : ∀ (w : Str) (b1 b2 b3 : Bool), pC nm K ρ G H Q (fun _ _ _ => False) (.ok (.lst [.str w, d]) M) → ∀ p q, H' p = none → upd H' p (.lst [.bl b1, .bl b2, .bl b3]) q = none → Q (.ref q) (upd (upd H' p (.lst [.bl b1, .bl b2, .bl b3])) q (.lst [.str w, v])) := fun w b1 b2 b3 h p q hp hq => by
        have g1 := Same.upd (o := HO.lst [.bl b1, .bl b2, .bl b3]) (wf.none_of hp)
        have wf1 := wf.alloc hp (.lst [.bl b1, .bl b2, .bl b3])
        have g2 := Same.upd (o := HO.lst [.str w, v]) (wf1.none_of hq)
        exact h _ _ _ ρ' ((kp.trans (Kp.alloc wf hp _)).trans (Kp.alloc wf1 hq _)) (wf1.alloc hq _) (.lst upd_same (.cons (.str w) (.cons (e3.mono (g1.trans g2) (Pre.refl _)) .nil)))
      split at h2
      · rename_i hc
        obtain ⟨rfl, rfl⟩ := hc
        exact hE _ _ _ ⟨_, dd, _, v, _, w1, true, false, false, rfl, .inl ⟨rfl, rfl, rfl, rfl, rfl, rfl⟩, e1, e2, by simp [List.lookup], fin w1 _ _ _ h2⟩
      · split at h2
        · rename_i hc
          obtain ⟨rfl, rfl⟩ := hc
          exact hE _ _ _ ⟨_, dd, _, v, _, w2, false, true, false, rfl, .inr (.inl ⟨rfl, rfl, rfl, rfl, rfl, rfl⟩), e1, e2, by simp [List.lookup], fin w2 _ _ _ h2⟩
        · split at h2
          · rename_i hc
            obtain ⟨rfl, rfl⟩ := hc
            exact hE _ _ _ ⟨_, dd, _, v, _, w3, false, false, true, rfl, .inr (.inr ⟨rfl, rfl, rfl, rfl, rfl, rfl⟩), e1, e2, by simp [List.lookup], fin w3 _ _ _ h2⟩
          · exact h2.elim
end PM

namespace PM
open PySem PySem.Spec PyProof.Rows L2 LamX
/-! ### a lambda that is kept: its object is pinned -/
/-- the object of a lambda made in X -/
abbrev cloO (X : Cx) (params : Arguments) (body : Expr) (scope : Scope) (pm : Value) (c' : Addr) (ctv : Value) : Obj := PySem.W.kla_obj "<lambda>" (X.env.qual ++ "<lambda>") params body scope (cloFrom X.env.cells scope.names []) pm c' ctv
theorem lam_pin {X : Cx} {T : List (Addr × Str)} {pins : List (Addr × Obj)} {σ : L2.St} {H : Hp} {s : Shared} {c P : Addr} {params : Arguments} {body : Expr} {scope : Scope} {pos : Pos} {E : Value → Shared → Prop} {Q : Value → Shared → Prop} (hs : X.stack = X.env :: X.outer) (hfr : X.env.frame = some X.env.locals)
    (I : Inv X pins σ H s) (TB : TabB X.base X.mg c P) (hcode : X.env.code = .ref c)
    (hm : (P, X.env.qual ++ "<lambda>") ∈ T) (hu : ∀ p ∈ T, p.1 = P → p.2 = X.env.qual ++ "<lambda>") (hT : Tabs T H) (hdef : defaultsOf params X.env = ([], [])) (hfree : ∀ y ∈ scope.names, y.2 = .free → ∃ c, X.env.cells.lookup y.1 = some c)
    (h : ∀ (f c' : Addr) (pm ctv : Value) (H1 : Hp) (s' : Shared), Inv (pinned X (f, cloO X params body scope pm c' ctv)) pins σ H1 s' → ExtN H H1 → Tabs T H1 → H1 c' = some (CodeO c' (X.env.qual ++ "<lambda>")) → Q (.ref f) s') :
    wpAny (model X.prog X.w) X.A (eval (.Lambda params body scope pos) X.env) Q E s := by
  refine lam_make2 I TB hcode hm hu hT hdef hfree fun f c' pm ctv H1 s' I1 eN T1 hf hfn nfr hco => ?_
  refine h f c' pm ctv H1 s' (inv_pin ?_) eN T1 hco
  have nL : f ≠ X.env.locals := fun z => nfr (by rw [hs]; exact List.mem_filterMap.mpr ⟨X.env, List.mem_cons_self, by rw [hfr, z]⟩)
  have nF : f ∉ X.fs := fun hm => by
    obtain ⟨e, he, q⟩ := List.mem_filterMap.mp hm
    exact nfr (by rw [hs]; exact List.mem_filterMap.mpr ⟨e, List.mem_cons_of_mem _ he, q⟩)
  exact ⟨I1.ok, I1.os, I1.bare, I1.base, I1.loc, I1.cell, I1.free, I1.freeC, fun p hp => by
    rcases List.mem_append.mp hp with h | h
    · exact I1.pin p (List.mem_append_left _ h)
    · rcases List.mem_cons.mp h with e | h
      · subst e
        exact ⟨hf, hfn, nL, nF, fun v z => by cases z⟩
      · exact I1.pin p (List.mem_append_right _ h), I1.hok, I1.len⟩
end PM

namespace PM
open PySem PySem.Spec PyProof.Rows L2 LamX
/-! ### a lambda that is kept: its object is tracked -/
def CloT (f : Addr) (oe : Obj) : HO := .ext fun h => h.get? f = some oe
theorem cloT_nt {f : Addr} {oe : Obj} : ∀ ps, CloT f oe ≠ .tbl ps := fun ps z => by
  unfold CloT at z
  cases z
section
variable {X : Cx} {pins : List (Addr × Obj)} {σ : L2.St} {H H0 : Hp} {s s0 : Shared}
theorem inv_track {f : Addr} {oe : Obj} (I0 : Inv X pins σ H0 s0) (hge : s0.heap.objs.size ≤ f) (I : Inv X pins σ H s) (hf : s.heap.get? f = some oe) (hn : H f = none) : Inv X pins σ (upd H f (CloT f oe)) s := by
  have ne0 : ∀ {b : Addr} {o : Obj}, s0.heap.get? b = some o → b ≠ f := fun e z => absurd (Heap.lt_size e) (by rw [z]; exact Nat.not_lt.mpr hge)
  have neX : ∀ {b : Addr} {o : Obj}, X.s_0.heap.get? b = some o → b ≠ f := fun e z => absurd (Heap.lt_size e) (by rw [z]; exact Nat.not_lt.mpr (Nat.le_trans I0.sz hge))
  have neH : ∀ {b : Addr} {o : HO}, H b = some o → b ≠ f := fun e z => by rw [z, hn] at e; cases e
  have up : ∀ {b : Addr} {o : HO}, H b = some o → upd H f (CloT f oe) b = some o := fun e => by rw [upd_ne (neH e)]; exact e
  refine ⟨I.ok, I.os, I.bare, ⟨I.base.keep, I.base.slot, fun b o e n hx => ?_, I.base.there, fun b xs e => up (I.base.tups b xs e), fun b o u e => up (I.base.frzs b o u e), fun b ps e => ?_⟩, I.loc, I.cell, ?_, fun y c e => ?_, fun p hp => ?_, fun b u e => ?_, I.len⟩
  · rw [upd_ne (neX e)]
    exact I.base.free b o e n hx
  · obtain ⟨m, q⟩ := I.base.tbls b ps e
    exact ⟨m, up q⟩
  · rw [upd_ne (fun z => absurd I0.lt (by rw [z]; exact Nat.not_lt.mpr hge))]
    exact I.free
  · obtain ⟨v, o, ho, _⟩ := I0.cell y c e
    rw [upd_ne (ne0 ho)]
    exact I.freeC y c e
  · obtain ⟨k1, k2, k3⟩ := I.pin p hp
    refine ⟨k1, ?_, k3⟩
    rw [upd_ne (ne0 (I0.pin p hp).1)]
    exact k2
  · by_cases hb : b = f
    · rw [hb, upd_same] at e
      cases e
      rw [hb]
      exact ⟨hf, ⟨_, hf⟩, fun h1 h2 k q => q _ k⟩
    · rw [upd_ne hb] at e
      exact (I.hok b u e).stay (fun _ _ _ q => q) (fun _ q => up q) fun _ _ q => up q
theorem lam_new {T : List (Addr × Str)} {c P : Addr} {params : Arguments} {body : Expr} {scope : Scope} {pos : Pos} {E Q : Value → Shared → Prop} (I : Inv X pins σ H s) (TB : TabB X.base X.mg c P) (hcode : X.env.code = .ref c)
    (hm : (P, X.env.qual ++ "<lambda>") ∈ T) (hu : ∀ p ∈ T, p.1 = P → p.2 = X.env.qual ++ "<lambda>") (hT : Tabs T H) (hdef : defaultsOf params X.env = ([], [])) (hfree : ∀ y ∈ scope.names, y.2 = .free → ∃ c, X.env.cells.lookup y.1 = some c)
    (h : ∀ (f c' : Addr) (pm ctv : Value) (H1 : Hp) (s' : Shared), Inv X pins σ (upd H1 f (CloT f (cloO X params body scope pm c' ctv))) s' → ExtN H H1 → Tabs T H1 → H1 f = none → H1 c' = some (CodeO c' (X.env.qual ++ "<lambda>")) → Q (.ref f) s') :
    wpAny (model X.prog X.w) X.A (eval (.Lambda params body scope pos) X.env) Q E s := by
  obtain ⟨ps, hP, ht, ha⟩ := hT _ hm
  have eP : s.heap.get? P = some { cls := .none, data := .fields ps } := I.hok P _ hP
  have bP := TB.bm.keeps I.bk
  refine PySem.W.kla_eval hdef ?_
  cases hc : codeAmong pos ps.toList with
  | some cv =>
    obtain ⟨c', rfl, hco⟩ := ha pos cv hc
    refine PySem.W.kla_makeFunctionHit (mg := X.mg) (c := c) (P := P) (ps := ps) (closure_ok hfree) I.ok.glob (I.mod.glob.keeps I.bk) hcode (TB.code.keeps I.bk) eP ht hc bP fun ctv h' tk hx hsz => ?_
    have I1 : Inv X pins σ H { s with heap := h'.push (cloO X params body scope ((X.mg "__name__").getD .none) c' ctv), toks := tk } := I.kept fun b o e => Heap.get?_push_of_some _ (hx b o e)
    exact h h'.objs.size c' _ ctv H _ (inv_track I hsz I1 (Heap.get?_push_size _ rfl) (I.hok.fresh hsz)) (ExtN.refl H) hT (I.hok.fresh hsz) hco
  | none =>
    refine PySem.W.kla_makeFunction (mg := X.mg) (c := c) (P := P) (ps := ps) (closure_ok hfree) I.ok.glob (I.mod.glob.keeps I.bk) hcode (TB.code.keeps I.bk) eP ht hc TB.gP bP fun c' ctv h' tk hx hge hlt hrec htb => ?_
    obtain ⟨c2, oc, vs, t, e2, hoc, hd, hv⟩ := hrec
    cases e2
    have hsz : s.heap.objs.size ≤ h'.objs.size := Nat.le_trans hge (Nat.le_of_lt hlt)
    have nC : H c' = none := I.hok.fresh hge
    have nF : H h'.objs.size = none := I.hok.fresh hsz
    let more : Array Value := #[rawInt pos.line, rawInt pos.col, .ref c']
    let H1 : Hp := upd (upd H P (.tbl (ps ++ more))) c' (CodeO c' (X.env.qual ++ "<lambda>"))
    have I1 : Inv X pins σ H1 { s with heap := h'.push (cloO X params body scope ((X.mg "__name__").getD .none) c' ctv), toks := tk } :=
      inv_table (more := more) I hP (fun b o hb e => Heap.get?_push_of_some _ (hx b o hb e)) (Heap.get?_push_of_some _ htb) hge ⟨oc, vs, t, Heap.get?_push_of_some _ hoc, hd, hv⟩
    have nP : ∀ b o, H b = some o → (∀ ps, o ≠ .tbl ps) → b ≠ P := fun b o e n z => by
      rw [z, hP] at e
      exact n ps (Option.some.inj e).symm
    have hE : ExtN H H1 := fun b o e n => by
      show upd (upd H P _) c' _ b = _
      rw [upd_ne (ne_of_none e nC), upd_ne (nP b o e n)]
      exact e
    have nF1 : H1 h'.objs.size = none := by
      show upd (upd H P _) c' _ _ = _
      rw [upd_ne (Nat.ne_of_gt hlt), upd_ne (Nat.ne_of_gt (Nat.lt_of_lt_of_le (Heap.lt_size eP) hsz))]
      exact nF
    have eL : (ps ++ more).toList = ps.toList ++ [rawInt pos.line, rawInt pos.col, .ref c'] := by simp [more]
    have T1 : Tabs T H1 := fun p hp => by
      by_cases hb : p.1 = P
      · rw [hu p hp hb, hb]
        refine ⟨_, (upd_ne (ne_of_none hP nC)).trans upd_same, by rw [eL]; exact PySem.TriplesOk_snoc _ _ _ _ ht, fun p' cv hcv => ?_⟩
        rw [eL] at hcv
        rcases among_app _ ht hcv with z | z
        · obtain ⟨c0, e1, e2⟩ := ha p' cv z
          exact ⟨c0, e1, hE _ _ e2 codeO_ne⟩
        · exact ⟨c', z, upd_same⟩
      · obtain ⟨ps', a1, a2, a3⟩ := hT p hp
        refine ⟨ps', (upd_ne (ne_of_none a1 nC)).trans ((upd_ne hb).trans a1), a2, fun p' cv hcv => ?_⟩
        obtain ⟨c0, e1, e2⟩ := a3 p' cv hcv
        exact ⟨c0, e1, hE _ _ e2 codeO_ne⟩
    exact h h'.objs.size c' _ ctv H1 _ (inv_track I hsz I1 (Heap.get?_push_size _ rfl) nF1) hE T1 nF1 upd_same
/-- a lambda made, tracked -/
def tMk (X : Cx) (T : List (Addr × Str)) (params : Arguments) (body : Expr) (scope : Scope) : TE := fun _ H Q => Tabs T H ∧ ∀ (f c' : Addr) (pm ctv : Value) (H1 : Hp), ExtN H H1 → Tabs T H1 → H1 f = none → H1 c' = some (CodeO c' (X.env.qual ++ "<lambda>")) → Q (.ref f) (upd H1 f (CloT f (cloO X params body scope pm c' ctv)))
theorem pe_mk {T : List (Addr × Str)} {c P : Addr} {params : Arguments} {body : Expr} {scope : Scope} {pos : Pos} (TB : TabB X.base X.mg c P) (hcode : X.env.code = .ref c)
    (hm : (P, X.env.qual ++ "<lambda>") ∈ T) (hu : ∀ p ∈ T, p.1 = P → p.2 = X.env.qual ++ "<lambda>") (hdef : defaultsOf params X.env = ([], [])) (L : LamS X.env.scope scope) : PE X (.Lambda params body scope pos) (tMk X T params body scope) :=
  ⟨fun pins s σ H Q I ⟨hT, h⟩ => lam_new I TB hcode hm hu hT hdef (L.has I.ok) fun f c' pm ctv H1 s' I1 e1 t1 n1 k1 => ⟨.ref f, _, I1, rfl, h f c' pm ctv H1 e1 t1 n1 k1⟩⟩
end
end PM

namespace PM
open PySem PySem.Spec PyProof.Rows L2 LamX
/-! ### a list comprehension whose element knows where the block's free names stand -/
theorem cloFrom_same {a b : List (Str × Addr)} : ∀ {names : List (Str × NameKind)} {acc : List (Str × Addr)}, (∀ y ∈ names, y.2 = .free → a.lookup y.1 = b.lookup y.1) → cloFrom a names acc = cloFrom b names acc
  | [], _, _ => rfl
  | (n, k) :: r, acc, h => by
    unfold cloFrom
    by_cases hk : k = .free
    · subst hk
      have e : List.lookup n a = List.lookup n b := h (n, .free) List.mem_cons_self rfl
      simp only [beq_self_eq_true, if_true]
      rw [e]
      exact cloFrom_same fun y hy => h y (List.mem_cons_of_mem _ hy)
    · have z : (k == NameKind.free) = false := by simpa using hk
      simp only [z, Bool.false_eq_true, if_false]
      exact cloFrom_same fun y hy => h y (List.mem_cons_of_mem _ hy)
/-- the cells that a block's names stand in, of the def around -/
def CellsOk (X : Cx) (scope : Scope) (cl : List (Str × Addr)) : Prop := ∀ y, scope.names.lookup y = some .free → cl.lookup y = X.env.cells.lookup y
section
variable {X : Cx}
theorem cellsOk_of {pins : List (Addr × Obj)} {σ : L2.St} {H : Hp} {s : Shared} {scope : Scope} {own : List (Str × Nat)} (I : Inv X pins σ H s) (ok : BlkOk X.N X.env.scope scope own) :
    CellsOk X scope (cellsFrom (s.heap.objs.size + 1) scope.names (cloFrom X.env.cells scope.names [])) := by
  intro y hl
  have hy : (y, NameKind.free) ∈ scope.names := PySem.mem_of_lookup hl
  have has : ∃ c, X.env.cells.lookup y = some c := (ok.free _ hy rfl).elim (fun k => I.ok.has _ (.inl k)) fun k => I.ok.has _ (.inr k)
  obtain ⟨c0, hc0⟩ := has
  have sz : s.heap.objs.size + 1 = (s.heap.push { cls := .type "dict", data := .dict #[] }).objs.size := (Heap.size_push _ _).symm
  rw [sz]
  obtain ⟨c1, e1⟩ := L2.mem_lookup (cells_acc (names := scope.names) (n := (s.heap.push { cls := .type "dict", data := .dict #[] }).objs.size) (cloFrom_has (cells := X.env.cells) (acc := []) hy))
  rw [e1, hc0]
  rcases cells_mem (PySem.mem_of_lookup e1) with k | ⟨k, _, _⟩
  · rcases cloFrom_mem k with k | ⟨_, k⟩
    · cases k
    · rw [k, hc0]
      rfl
  · have z := ok.uniq _ k
    rw [hl] at z
    cases z
theorem lcK_core {pins : List (Addr × Obj)} {s : Shared} {σ : L2.St} {H : Hp} {Q : VK} {elt tg iter : Expr} {ifs : List Expr} {scope : Scope} {own : List (Str × Nat)} {pos ipos : Pos} {wi : TI} {g : TG} {tt : TT} {te : TE} {use : Option (Value → Sem Unit)} {Qf : Value → Shared → Prop}
    (calm : X.calm = true) (nodup : X.N.Nodup) (I0 : Inv X pins σ H s) (pi : PI X tg iter wi) (bo : BlkOk X.N X.env.scope scope own)
    (hg : ∀ s H C cl fp, PG (X.blk s H scope (compEnvC scope cl C X.env) fp) tg g) (ht : ∀ s H C cl fp, PTs (X.blk s H scope (compEnvC scope cl C X.env) fp) ifs tt)
    (he : ∀ s H C cl fp, CellsOk X scope cl → PE (X.blk s H scope (compEnvC scope cl C X.env) fp) elt te) (hs : ∀ x, foldedSetIterable iter X.env x = pure x) (h : tLc wi g tt te (own.map (·.2)) σ H Q)
    (fin : ∀ D C s' m H', Inv X pins σ H' s' → Q (.ref D) H' → s'.heap.Ns C m → FpOk X pins H' C → compPost (model X.prog X.w) X.A X.xe use Qf (.ref D) C (.ok .next) s') :
    wpAny (model X.prog X.w) X.A (comprehension (.ListComp elt [⟨tg, iter, ifs, 0⟩] scope pos) scope X.env ipos (newList []) false (eval iter X.env) use) Qf X.xe s := by
  have fr : ∀ y ∈ scope.names, y.2 = .free → ∃ c, X.env.cells.lookup y.1 = some c := fun y hy e => (bo.free y hy e).elim (fun k => I0.ok.has _ (.inl k)) fun k => I0.ok.has _ (.inr k)
  refine wpAny_comprehension_free (use := use) rfl hs (closure_ok fr) bo.kind (fun y hy e => (bo.uniq y hy).trans (congrArg some e)) (thn (pi.run pins s σ H _ I0 h) fun va sa ha => thn ha fun vb sb hb => ?_)
  obtain ⟨it, fp, tn, J, Hb, eq, Ib, tk, stb, fb, qb⟩ := hb
  subst eq
  refine wpAny_newObj_type (newEnv_comp ?_) (Nat.zero_le _)
  generalize eD : sb.heap.objs.size = D
  have nD : Hb D = none := Ib.hok.fresh (Nat.le_of_eq eD)
  obtain ⟨W, ⟨m0, w0⟩, turn⟩ := qb D nD
  generalize esc : ({ sb with heap := sb.heap.push { cls := .type "list", data := .seq ([] : List Value).toArray } } : Shared) = sc
  have Ic : Inv X pins σ (upd Hb D (.lst [])) sc := by
    subst esc
    exact Ib.laid (t' := sb.toks) (fun b o e => Heap.get?_push_of_some _ e) (Nat.le_of_eq eD) ⟨Nat.zero_le _, [], 0, .nil, by subst eD; exact Heap.get?_push_size _ rfl⟩
  have hc : sc.heap = sb.heap.push { cls := .type "list", data := .seq ([] : List Value).toArray } := by subst esc; rfl
  have small : ∀ b ∈ fp, b < sb.heap.objs.size := fun b hm => let ⟨_, e, _⟩ := tk.obj _ _ stb b hm; Heap.lt_size e
  have fc : ∀ b ∈ fp, FpOk X pins (upd Hb D (.lst [])) b ∧ b < sc.heap.objs.size := fun b hm => ⟨⟨(upd_ne (by subst eD; exact Nat.ne_of_lt (small b hm))).trans (fb b hm).1, (fb b hm).2⟩, by rw [hc, Heap.size_push]; exact Nat.lt_succ_of_lt (small b hm)⟩
  have stc : tn 0 sc.heap := tk.keep _ _ _ stb fun b _ o e => by rw [hc]; exact Heap.get?_push_of_some _ e
  have Id := block_start Ic bo nodup fc
  have pg := hg sc (upd Hb D (.lst [])) sc.heap.objs.size (cellsFrom (sc.heap.objs.size + 1) scope.names (cloFrom X.env.cells scope.names [])) fp
  have pt := ht sc (upd Hb D (.lst [])) sc.heap.objs.size (cellsFrom (sc.heap.objs.size + 1) scope.names (cloFrom X.env.cells scope.names [])) fp
  have pe := he sc (upd Hb D (.lst [])) sc.heap.objs.size (cellsFrom (sc.heap.objs.size + 1) scope.names (cloFrom X.env.cells scope.names [])) fp (cellsOk_of Ic bo)
  show codeAny _ _ (.compStart (.ListComp elt [⟨tg, iter, ifs, 0⟩] scope pos) 0 (.ref it) (.ref D) (compEnvC scope (cellsFrom (sc.heap.objs.size + 1) scope.names (cloFrom X.env.cells scope.names [])) sc.heap.objs.size X.env)) (compPost (model X.prog X.w) X.A X.xe use Qf (.ref D) sc.heap.objs.size) { sc with heap := pushCells (sc.heap.push { cls := .type "dict", data := .dict #[] }) scope.names }
  have nfp : ∀ b ∈ fp, (upd Hb D (.lst [])) b = none := fun b hm => (fc b hm).1.1
  generalize ece : compEnvC scope (cellsFrom (sc.heap.objs.size + 1) scope.names (cloFrom X.env.cells scope.names [])) sc.heap.objs.size X.env = ce at Id pg pt pe ⊢
  have lce : ce.locals = sc.heap.objs.size := by subst ece; rfl
  generalize eHc : upd Hb D (.lst []) = Hc at Ic Id pg pt pe w0 nfp fc
  generalize esd : ({ sc with heap := pushCells (sc.heap.push { cls := .type "dict", data := .dict #[] }) scope.names } : Shared) = sd at Id ⊢
  have std : tn 0 sd.heap := tk.keep _ _ _ stc fun b _ o e => by subst esd; exact pushCells_keeps _ _ _ _ (Heap.get?_push_of_some _ e)
  generalize eY : X.blk sc Hc scope ce fp = Y at Id pg pt pe
  have Yfacts : Y.calm = true ∧ Y.prog = X.prog ∧ Y.w = X.w ∧ Y.A = X.A ∧ Y.env = ce ∧ Y.ex = fp := by subst eY; exact ⟨calm, rfl, rfl, rfl, rfl, rfl⟩
  have quiet : ∀ {σ' : L2.St} {H' : Hp} {s' : Shared}, Inv (X.blk sc Hc scope ce fp) [] σ' H' s' → (∀ b ∈ fp, H' b = none) → ∀ b ∈ fp, FpOk (X.blk sc Hc scope ce fp) [] H' b := fun {σ' H' s'} J' hn b hb =>
    ⟨hn b hb, (J'.ok.exf b hb).1, J'.ok.exfs b hb, .inl hb, fun x c e => (J'.ok.exf b hb).2 x c e, fun p hp => absurd (show p ∈ ([] : List (Addr × Obj)) ++ [] from hp) (by simp)⟩
  subst eY
  have loop : codeAny (model X.prog X.w) X.A (.compLoop (.ListComp elt [⟨tg, iter, ifs, 0⟩] scope pos) 0 (.ref it) (.ref D) ce) (compPost (model X.prog X.w) X.A X.xe use Qf (.ref D) sc.heap.objs.size) sd := by
    refine compLoop_any (fun n sx => ∃ i Hx, Inv (X.blk sc Hc scope ce fp) [] (wipe σ (own.map (·.2))) Hx sx ∧ tn i sx.heap ∧ (∀ b ∈ fp, Hx b = none) ∧ W i n Hx) ?_ m0 ⟨0, Hc, Id, std, nfp, w0⟩
    rintro n se ⟨i, He, Ie, ste, ne, we⟩
    rcases turn i n He we with ⟨stop, done⟩ | ⟨go, Nx, hNx, step⟩
    · refine thnF (tk.done (X.blk sc Hc scope ce fp) rfl rfl rfl calm i [] se _ He (fun _ _ => False) Ie (quiet Ie ne) ste stop) fun r sf ⟨hr, If⟩ => ?_
      subst hr
      have Ig : Inv X pins σ He sf := Ic.call' (ch := fp) If.os If.base If.hok If.bare fun b hm => let z := (fc b hm).1.2; ⟨z.2.2.1, z.1, z.2.2.2.1, z.2.2.2.2⟩
      have nC : He sc.heap.objs.size = none := by rw [← lce]; exact If.free
      obtain ⟨m, hn, _⟩ := If.loc
      have hn : sf.heap.Ns sc.heap.objs.size m := by rw [← lce]; exact hn
      exact fin D sc.heap.objs.size sf m He Ig done hn (Ic.fpOk (Nat.le_refl _) nC)
    · refine thnF (tk.item (X.blk sc Hc scope ce fp) rfl rfl rfl calm i [] se _ He (fun _ _ => False) Ie (quiet Ie ne) ste go) fun r sf ⟨u, hr, hf⟩ => ?_
      subst hr
      refine thnF hf fun _ sg ⟨x, Hg, Ig, rg, yg, stg, ng⟩ => ?_
      refine thnF (pg.run _ sg _ Hg x u _ (Ig.pinned (quiet Ig ng) (tk.obj _ _ stg)) rg (step x Hg yg)) fun _ sh ⟨σh, Hh, Ih, wh, qh⟩ => ?_
      refine thnF (pt.run _ sh σh Hh _ Ih qh) fun b si ⟨Hi, Ii, qi⟩ => ?_
      have close : ∀ {sx : Shared} {Hx : Hp}, Inv (X.blk sc Hc scope ce fp) ([] ++ pinsAt fp sg.heap) σh Hx sx → Nx Hx → ∃ m, m < n ∧ ∃ i Hy, Inv (X.blk sc Hc scope ce fp) [] (wipe σ (own.map (·.2))) Hy sx ∧ tn i sx.heap ∧ (∀ b ∈ fp, Hy b = none) ∧ W i m Hy := fun {sx Hx} Ix nx => by
        obtain ⟨m', hm, wm⟩ := hNx Hx nx
        have pn : ∀ b ∈ fp, ∀ o, sg.heap.get? b = some o → sx.heap.get? b = some o ∧ Hx b = none := fun b hb o e => (fun z => ⟨z.1, z.2.1⟩) (Ix.pin (b, o) (List.mem_append_right _ (List.mem_append_right _ (mem_pinsAt hb e))))
        refine ⟨m', hm, i + 1, Hx, (Ix.unpinned (pins := [])).weak (by rw [← wh, wipe_length]) (fun j v e => (wipe_some (wh ▸ e)).1), tk.keep _ _ _ stg fun b hb o e => (pn b hb o e).1, fun b hb => ?_, wm⟩
        obtain ⟨o, e, _⟩ := tk.obj _ _ stg b hb
        exact (pn b hb o e).2
      cases b with
      | false =>
        simp only [Bool.false_eq_true, if_false] at qi ⊢
        exact close Ii qi
      | true =>
        simp only [if_true] at qi ⊢
        refine thnF (pe.run _ si σh Hi _ Ii qi) fun z sj ⟨yv, Hj, Ij, rj, acc, hD, hz, nx⟩ => ?_
        exact app_ok (X := X.blk sc Hc scope ce fp) Ij hD hz rj fun sk Ik => close Ik nx
  exact codeAny_compStart_list loop (tk.self X.A 0 _ _ _ std loop)
/-- as a value -/
theorem pe_lcK {elt tg iter : Expr} {ifs : List Expr} {scope : Scope} {own : List (Str × Nat)} {pos : Pos} {wi : TI} {g : TG} {tt : TT} {te : TE} (calm : X.calm = true) (nodup : X.N.Nodup) (pi : PI X tg iter wi) (bo : BlkOk X.N X.env.scope scope own)
    (hg : ∀ s H C cl fp, PG (X.blk s H scope (compEnvC scope cl C X.env) fp) tg g) (ht : ∀ s H C cl fp, PTs (X.blk s H scope (compEnvC scope cl C X.env) fp) ifs tt)
    (he : ∀ s H C cl fp, CellsOk X scope cl → PE (X.blk s H scope (compEnvC scope cl C X.env) fp) elt te) (hs : ∀ x, foldedSetIterable iter X.env x = pure x := by intro _; rfl) :
    PE X (.ListComp elt [⟨tg, iter, ifs, 0⟩] scope pos) (tLc wi g tt te (own.map (·.2))) :=
  ⟨fun pins s σ H Q I h => by
    rw [eval_ListComp]
    refine lcK_core calm nodup I pi bo hg ht he hs h fun D C s' m H' I' q hn f => ⟨m, hn, fun h'' sb => ?_⟩
    obtain ⟨f0, f1, f2, f3, f4, f5⟩ := f
    exact ⟨.ref D, H', I'.turned (t' := s'.toks) (fun b o hb e => (sb.2 b hb).trans e) f0 f1 f3 f4 f5, rfl, q⟩⟩
end
end PM

namespace PM
open PySem PySem.Spec PyProof.Rows L2 LamX
/-! ### a kept lambda, handed to a def that calls it -/
section
variable {X : Cx} {pins : List (Addr × Obj)} {σ : L2.St} {H : Hp} {s : Shared}
/-- a(), in the def that got the lambda; the lambda's object is tracked -/
theorem pe_actT {CXg : CXT} {Eg : XK} {Ng : List Str} {qg : Str} {sg : Scope} {g f c' : Addr} {cdg pm ctv : Value} {params : Arguments} {body : Expr} {scope : Scope} {k i : Nat} {a : Str} {pn : List (Addr × Obj)} {xe : Value → Shared → Prop} {W : WX} {E : XK} {tb : TE} {p1 p2 : Pos}
    (I : Inv X pins σ H s) (L : LamS X.env.scope scope) (hbind : bindArgs (PySem.W.kla_fn "<lambda>" (X.env.qual ++ "<lambda>") params body scope (cloFrom X.env.cells scope.names []) pm (.ref c') ctv) ⟨[], []⟩ = pure [])
    (tk : Takes ((cxOf CXg X.prog X.w X.K X.mg X.base Ng qg sg g cdg X.A X.stack s H Eg).tr pn xe) W) (hW : ∀ cls d σ' H', E cls d H' → W cls d σ' H') (room : Room (k + 1) (X.A.deeper (envOfC qg sg s.heap.objs.size g cdg)))
    (hb : ∀ A outer s H, Room k (A.deeper (lamEnv X scope s.heap.objs.size f c')) → PE (lamCx X A outer s H E scope f c') body tb) (hN : Ng[i]? = some a) (hv : Vis sg a) (hd : (a == ("__debug__" : Str)) = false) (hcd : (a == ("__classdict__" : Str)) = false) :
    PE ((cxOf CXg X.prog X.w X.K X.mg X.base Ng qg sg g cdg X.A X.stack s H Eg).tr pn xe) (.Call (.Name a p1) [] [] p2)
      (fun σZ HZ Q => σZ[i]? = some (some (.ref f)) ∧ HZ c' = some (CodeO c' (X.env.qual ++ "<lambda>")) ∧ HZ f = some (CloT f (cloO X params body scope pm c' ctv)) ∧ tb σ HZ Q) := by
  constructor
  intro pinsZ sZ σZ HZ Q IZ ⟨hs, hc, hF, ht⟩
  refine wpAny_Call_Name_kw (thn ((pe_var (pos := p1) (i := i) hN hv hd hcd).run pinsZ sZ σZ HZ (fun v Hv => v = .ref f ∧ Hv = HZ) IZ ⟨.ref f, hs, rfl, rfl⟩) fun u sv ⟨v, Hv, Iv, rv, qv⟩ => ?_)
  obtain ⟨rfl, rfl⟩ := qv
  have eu : u = Value.ref f := rv
  subst eu
  obtain ⟨of1, _, _⟩ := Iv.hok f _ hF
  have of1 : sv.heap.get? f = some (cloO X params body scope pm c' ctv) := of1
  refine PySem.W.callWith_F0 ⟨_, _, _, _, of1⟩ ?_
  have un : Un (frs X.stack) [] H Hv s.heap sv.heap := Iv.base
  obtain ⟨⟨oc, vs, t, hoc, hdc, hvc⟩, _, _⟩ := Iv.hok c' _ hc
  have go : codeAny (model X.prog X.w) (X.A.deeper (envOfC qg sg s.heap.objs.size g cdg)) (.call (.ref f) ⟨[], []⟩) (CR (L2.CX X.prog X.w) (envOfC qg sg s.heap.objs.size g cdg :: X.stack) X.prog X.w Hv sv Q E) sv := by
    refine PySem.W.kla_callFunE room.depth of1 rfl L.co L.gen rfl ⟨c', oc, vs, t, rfl, hoc, hdc, hvc⟩ ?_
    rw [hbind]
    refine wpAny_pure (wpAny_newFunctionEnv (fun y hy => (L.own y hy).2) (fun y hy => absurd hy (by simp)) (fun hn hns hsb => ⟨Iv.nolimit.fresh _ hsb, ?_⟩) L.kind)
    show codeAny _ _ (.expr body (lamEnv X scope sv.heap.objs.size f c')) _ _
    have kp : ∀ b o, sv.heap.get? b = some o → hn.get? b = some o := fun b o e => hsb.extBut b o (Nat.ne_of_lt (Heap.lt_size e)) (Heap.get?_push_of_some _ e)
    have J := lam_start2 (E := E) (scope := scope) (f := f) (c' := c') (tk := sv.toks + ([] : List (Str × Value)).length) I L Iv.env0 room.hd un hns kp
    refine PySem.W.kla_codeExpr (wpAny_mono ((hb _ _ sv Hv (room.deeper _)).run [] _ _ Hv Q J ht) (fun v s' hq => ?_) fun e s' hq => hq)
    obtain ⟨w', H', J', rv, q⟩ := hq
    exact ⟨w', H', J'.os, J'.bare, J'.base, J'.hok, rv, q⟩
  refine wpAny_call (codeAny_mono go fun r s' hq => ?_)
  have out : Passes (L2.CX X.prog X.w) ((cxOf CXg X.prog X.w X.K X.mg X.base Ng qg sg g cdg X.A X.stack s H Eg).tr pn xe) E := passes_call tk hW
  match r, hq with
  | .error e, hq => exact out pinsZ σZ Hv sv e s' Iv hq
  | .ok (.ret u), hq => exact Iv.after hq
  | .ok .next, hq => exact False.elim hq
  | .ok .brk, hq => exact False.elim hq
  | .ok .cont, hq => exact False.elim hq
/-- x(y), y a variable that holds a kept lambda -/
theorem pe_lamvar {TT : (XK → Hp → VK → Prop) → Hp → VK → Prop} {x y a : Str} {g : Addr} {k iy : Nat} {pg : Arguments} {bg : List Stmt} {sg : Scope} {dV kV doc pmg cdv ct oc : Value} {an od : Option Addr} {osl : Array (Option Value)} {Ng : List Str}
    {params : Arguments} {body : Expr} {scope : Scope} {t : XK → TE} {p py pos : Pos} (hg : Gl X x) (hm : X.mg x = some (.ref g)) (hk : PySem.W.keepIn X.K (.ref g) = true)
    (lk : X.K.lookup g = some ⟨oc, od, .func (PySem.W.fnOf x x pg bg sg dV kV doc pmg an cdv ct), osl⟩) (hcg : PySem.W.codeIn X.K cdv x = true) (hb : L2.Binds X.K (PySem.W.fnOf x x pg bg sg dV kV doc pmg an cdv ct) [a] []) (Sg : FnScope Ng [a] sg) (hNg : Ng[0]? = some a) (hva : Vis sg a)
    (hG : GivesTo X Ng x sg g cdv bg a (X.env.qual ++ "<lambda>") TT) (hr : Room (k + 2) X.A) (L : LamS X.env.scope scope) (hy : X.N[iy]? = some y) (hvy : Vis X.env.scope y)
    (hbind : ∀ (q : Str) (cl : List (Str × Addr)) (pm cv ctv : Value), bindArgs (PySem.W.kla_fn "<lambda>" q params body scope cl pm cv ctv) ⟨[], []⟩ = pure [])
    (hbody : ∀ A outer s H E f c', Room k (A.deeper (lamEnv X scope s.heap.objs.size f c')) → PE (lamCx X A outer s H E scope f c') body (t E))
    (hdb : (x == ("__debug__" : Str)) = false) (hd : (a == ("__debug__" : Str)) = false) (hcd : (a == ("__classdict__" : Str)) = false) (hyd : (y == ("__debug__" : Str)) = false) (hyc : (y == ("__classdict__" : Str)) = false)
    (he : starEach [.Name y py] X.env = (false, eval (.Name y py) X.env) :: starEach [] X.env) (hpl : (backTo pos (starEach [] X.env)).any (·.1) = false) :
    PE X (.Call (.Name x p) [.Name y py] [] pos) (fun σ H Q => ∃ (f c' : Addr) (pm ctv : Value), σ[iy]? = some (some (.ref f)) ∧ H f = some (CloT f (cloO X params body scope pm c' ctv)) ∧ H c' = some (CodeO c' (X.env.qual ++ "<lambda>")) ∧
      TT (fun E H' Q' => H' f = some (CloT f (cloO X params body scope pm c' ctv)) ∧ t E σ H' Q') H Q) := by
  constructor
  intro pins s σ H Q I ⟨f, c', pm, ctv, h1, h2, h3, h4⟩
  refine wpAny_Call_Name_kw (ld_glob I hg hm ?_ hdb)
  refine PySem.W.callWith_K (h₀ := X.base) I.ok.mod.kin hk (thn ((pa_cons (pe_var (pos := py) (i := iy) hy hvy hyd hyc) pa_nil he).run pos pins s σ H (fun vs Hv => vs = [.ref f] ∧ Hv = H) I ⟨.ref f, h1, rfl, rfl⟩) fun us sv ⟨vs, Hv, Iv, rv, qv⟩ => ⟨Iv.kIn, ?_⟩) he hpl
  obtain ⟨rfl, rfl⟩ := qv
  have eus : us = [Value.ref f] := by
    cases rv with
    | cons a b =>
      cases b
      have a : _ = Value.ref f := a
      rw [a]
  subst eus
  have go : codeAny (model X.prog X.w) X.A (.call (.ref g) ⟨[.ref f], []⟩) (CR C8.CX0 X.stack X.prog X.w Hv sv Q C8.E0) sv := by
    refine run_ofS (N := Ng) (ps := [a]) (us := [.ref f]) (vs := [.ref f]) lk hcg Sg hr Iv.env0 (hb sv [.ref f] Iv.kIn rfl) (.cons rfl .nil) rfl fun room => ?_
    obtain ⟨t', ht', hq'⟩ := hG f c' sv Hv Q _ (fun W pn xe E p1 p2 tk hW => (pe_actT (i := 0) (pm := pm) (ctv := ctv) Iv L (hbind _ _ _ _ _) tk hW room (fun A outer s H hr2 => hbody A outer s H E f c' hr2) hNg hva hd hcd)) h3 h4
    exact ⟨t', ht'.nox, hq'⟩
  refine wpAny_call (codeAny_mono go fun r s2 hq => ?_)
  match r, hq with
  | .error e, hq => exact (show False from hq).elim
  | .ok (.ret u), hq => exact Iv.after hq
  | .ok .next, hq => exact False.elim hq
  | .ok .brk, hq => exact False.elim hq
  | .ok .cont, hq => exact False.elim hq
end
/-- a slot holds the kept lambda of params, body, scope, made in X -/
def KeptL (X : Cx) (iy : Nat) (params : Arguments) (body : Expr) (scope : Scope) (σ : L2.St) (H : Hp) : Prop := ∃ (f c' : Addr) (pm ctv : Value), σ[iy]? = some (some (.ref f)) ∧ H f = some (CloT f (cloO X params body scope pm c' ctv)) ∧ H c' = some (CodeO c' (X.env.qual ++ "<lambda>"))
section
variable {gd : Bool} {X Z : Cx} {nm : Nm} {W : WX} {k : Nat} {fb : EF}
/-- the same, by values; Z the def that made it, X where it is called -/
theorem wLaV {T : CO → CO} {x y : Str} {j iy : Nat} {params : Arguments} {body : Expr} {scope : Scope} {p py pos : Pos} (cc : Cc gd X W k) (D : LdT X.prog X.w X.K X.mg X.base nm x T) (hZ : cloFrom Z.env.cells scope.names [] = cloFrom X.env.cells scope.names []) (hq : Z.env.qual = X.env.qual)
    (hbody : ∀ A outer s H E f c', Cc false (lamCx X A outer s H E scope f c') (fun cls d _ H' => E cls d H') j → PE (lamCx X A outer s H E scope f c') body (tE nm X.K (fun cls d _ H' => E cls d H') fb))
    (hy : X.N[iy]? = some y := by rfl) (hvy : Vis X.env.scope y := by first | exact .inl rfl | exact .inr (.inl rfl) | exact .inr (.inr rfl)) (hj : j + 2 ≤ k := by decide) (hg : Gl X x := by rfl) (hS : LamS X.env.scope scope := by exact LamX.lamS_by (by kernel_rfl))
    (hbind : ∀ (q : Str) (cl : List (Str × Addr)) (pm cv ctv : Value), bindArgs (PySem.W.kla_fn "<lambda>" q params body scope cl pm cv ctv) ⟨[], []⟩ = pure [] := by intros; rfl) (hdb : (x == ("__debug__" : Str)) = false := by decide) (hyd : (y == ("__debug__" : Str)) = false := by decide) (hyc : (y == ("__classdict__" : Str)) = false := by decide)
    (he : starEach [.Name y py] X.env = (false, eval (.Name y py) X.env) :: starEach [] X.env := by rfl) (hpl : (backTo pos (starEach [] X.env)).any (·.1) = false := by rfl) :
    PE X (.Call (.Name x p) [.Name y py] [] pos) (fun σ H Q => KeptL Z iy params body scope σ H ∧ tE nm X.K W (eLaT T fb) σ H Q) := by
  obtain ⟨g, fd, pg, bg, sg, Ng, a, TT, F, hm, hb, Sg, hNg, hva, d1, d2, hG, ok⟩ := D.ex
  obtain ⟨oc, od, dV, kV, doc, pm, an, cdv, ct, osl, e, lk, hcd, _, _⟩ := F.ex
  subst e
  have nr := D.nr
  refine (pe_lamvar (iy := iy) (t := fun E => tE nm X.K (fun cls d _ H' => E cls d H') fb) hg hm F.kp lk hcd hb Sg hNg hva (hG X cdv _ rfl rfl) (cc.hr.mono hj) hS hy hvy hbind (fun A outer s H E f c' hr => hbody A outer s H E f c' (cc.lam A outer s H E scope f c' hr)) hdb d1 d2 hyd hyc he hpl).imp fun σ H Q ⟨⟨f, c', pm', ctv, h1, h2, h3⟩, fr, ρ, G, e, M, s, h⟩ => ?_
  have eo : cloO Z params body scope pm' c' ctv = cloO X params body scope pm' c' ctv := by
    show PySem.W.kla_obj _ _ _ _ _ _ _ _ _ = PySem.W.kla_obj _ _ _ _ _ _ _ _ _
    rw [hZ, hq]
  rw [eo] at h2
  rw [hq] at h3
  refine ⟨f, c', pm', ctv, h1, h2, h3, ?_⟩
  have sb : SR nm X.K ⟨H, G, ρ⟩ ρ G (blkE [] e) M σ H := s.block []
  refine ok Q _ H G ρ (endC (fb (blkE [] e) M)) (fun E R hp => ⟨h2, ?_⟩) ?_
  · refine ⟨_, ρ, G, blkE [] e, M, sb, ?_⟩
    cases q : fb (blkE [] e) M with
    | bad => rw [q] at hp; exact hp.elim
    | ok d e' M' =>
      rw [q] at hp
      exact fun v H' G' ρ' g' p' s' rv => hp v H' G' ρ' s'.kp s'.wf rv
    | err k' fv e' M' =>
      rw [q] at hp
      exact fun σ' H' G' ρ' dx g' p' s' er => hp H' G' ρ' dx s'.kp s'.wf er
  · have h2 : pG nm X.K fr W (gdE nm X.K fr σ Q) ρ G ((T (endC (fb (blkE [] e) M))).out e) ∨ fb (blkE [] e) M = .bad := by
      unfold eLaT lamF at h
      cases q : fb (blkE [] e) M with
      | bad => exact .inr rfl
      | ok d e' M' => rw [q] at h; exact .inl h
      | err k' fv e' M' => rw [q] at h; exact .inl h
    rcases h2 with h2 | h2
    · have nr := nr (endC (fb (blkE [] e) M))
      generalize T (endC (fb (blkE [] e) M)) = o at h2 nr ⊢
      cases o with
      | bad => exact h2.elim
      | ok d M' => exact fun v H' G' ρ' kp wf rv => h2 v H' G' ρ' (kp.grows s.wf.sub) kp.pre (s.step kp wf) rv
      | err k' fv M' => exact absurd rfl (nr k' fv M')
    · unfold eLaT lamF at h
      rw [h2] at h
      exact h.elim
end
end PM

namespace PM
open PySem PySem.Spec PyProof.Rows L2 LamX
/-! ### x = [lambda: ..]; x.append(lambda: ..); if any([.. for y in x]): return False -/
def sClo2 (acc : List D) : SF := fun e M => match anyB [.lst acc] with
  | some (.bl true) => .ok (.rt (.bl false)) e M
  | some (.bl false) => .ok .nx e M
  | _ => .bad
def sClo1 (iv : Nat) (c : EF) (rest : List D → SF) (acc : List D) : SF := fun e M => (noErr (c ((blkE [iv] e).set iv .non) M)).bind fun d _ M => rest (acc ++ [d]) e M
/-- c1, c2 are asked in turn, each with the lambda at iv; ic: the list's slot, then empty -/
def sClo (ic iv : Nat) (c1 c2 : EF) : SF := fun e M => sClo1 iv c1 (sClo1 iv c2 sClo2) [] (e.set ic .non) M
section
variable {nm : Nm} {K : Frg} {ρ ρ' : List Addr} {G G' H H' : Hp} {M M' : List MO} {fr : Fr} {e e' : Ev} {σ σ' : L2.St}
theorem set_non {e : Ev} {i j : Nat} {t : Sl} (h : (e.set i .non)[j]? = some t) (ht : t ≠ .non) : j ≠ i ∧ e[j]? = some t := by
  rcases set_own h with ⟨_, z⟩ | z
  · exact absurd z.symm ht
  · exact z
/-- a slot is forgotten, whatever it holds -/
theorem SR.setNon (r : SR nm K fr ρ G e M σ H) (i : Nat) (v : Option V) : SR nm K fr ρ G (e.set i .non) M (σ.set i v) H where
  wf := r.wf
  kp := r.kp
  vals := fun j d h => by
    obtain ⟨hj, h⟩ := set_non h (by simp)
    obtain ⟨v, k1, k2⟩ := r.vals j d h
    exact ⟨v, by rw [List.getElem?_set_ne (Ne.symm hj)]; exact k1, k2⟩
  owns := fun j ys h => by
    obtain ⟨hj, h⟩ := set_non h (by simp)
    obtain ⟨a, ws, k1, k2⟩ := r.owns j ys h
    exact ⟨a, ws, by rw [List.getElem?_set_ne (Ne.symm hj)]; exact k1, k2⟩
  apart := fun j k xs ys a h1 h2 h3 h4 => by
    obtain ⟨n1, h1⟩ := set_non h1 (by simp)
    obtain ⟨n2, h2⟩ := set_non h2 (by simp)
    rw [List.getElem?_set_ne (Ne.symm n1)] at h3
    rw [List.getElem?_set_ne (Ne.symm n2)] at h4
    exact r.apart j k xs ys a h1 h2 h3 h4
  len := by simpa using r.len
theorem Kp.ext' {H1 : Hp} (x : ExtN H H1) : Kp ρ G H ρ G H1 := ⟨fun _ _ h => h, fun b o e n _ => x b o e n, fun _ _ => rfl, Same.refl _, fun _ m => .inl m, fun b ⟨o, e, n⟩ => ⟨o, x b o e n, n⟩⟩
/-- a code object is no mutable one -/
theorem Wf.code_nin (w : Wf nm K ρ G M H) {c : Addr} {q : Str} (h : H c = some (CodeO c q)) : c ∉ ρ := fun m => by
  obtain ⟨i, hi⟩ := List.mem_iff_getElem?.mp m
  have hl : i < M.length := by
    rw [← w.len]
    exact (List.getElem?_eq_some_iff.mp hi).1
  have z := w.obj i M[i] c (List.getElem?_eq_getElem hl) hi
  unfold CodeO at h
  cases q : M[i] with
  | lst xs =>
    rw [q] at z
    obtain ⟨vs, e, _⟩ := z
    rw [h] at e
    cases e
  | ins c fs =>
    rw [q] at z
    obtain ⟨dx, fv, e, _⟩ := z
    rw [h] at e
    cases e
  | dead => rw [q] at z; exact z
/-- a new thing is tracked, by itself -/
theorem SR.track (r : SR nm K fr ρ G e M σ H) {p : Addr} (hp : H p = none) {o : HO} (ho : ∀ ps, o ≠ .tbl ps) : SR nm K fr ρ G e M σ (upd H p o) :=
  r.step (Kp.refl.writeOff (NT.no hp) o ho) (r.wf.writeOff (r.wf.none_of hp) (r.wf.nin_of hp) (Soft.none hp) ho)
/-- a list by itself is written -/
theorem SR.writeRaw (r : SR nm K fr ρ G e M σ H) {p : Addr} {xs ws : List V} (h1 : H p = some (.lst xs)) (h2 : G p = none) (h3 : p ∉ ρ) (h4 : ¬ NT fr.H p) (h5 : ∀ (i : Nat) ys, e[i]? = some (.own ys) → σ[i]? ≠ some (some (.ref p))) :
    SR nm K fr ρ G e M σ (upd H p (.lst ws)) where
  wf := r.wf.writeOff h2 h3 (Soft.lst h1) (fun _ z => by cases z)
  kp := r.kp.writeOff h4 _
  vals := r.vals
  owns := fun j ys q => by
    obtain ⟨a, us, k1, k2, k3, k4, k5, k6⟩ := r.owns j ys q
    have n : a ≠ p := fun z => h5 j ys q (z ▸ k1)
    exact ⟨a, us, k1, k2, k3, k4, by rw [upd_ne n]; exact k5, k6⟩
  apart := r.apart
  len := r.len
end
section
variable {X : Cx} {nm : Nm} {W : WX} {pos : Pos}
/-- a list that a name holds, walked -/
theorem pi_raw {tgx a : Expr} {ta : TE} (ha : PE X a ta) : PI X tgx a (fun σ H R => ta σ H fun v H1 => ∃ p vs, v = .ref p ∧ H1 p = some (.lst vs) ∧ R (Itl X.K p) H1) := by
  refine ⟨fun pins s σ H R I h => ?_⟩
  refine thn (ha.run pins s σ H _ I h) fun v s1 ⟨x, H1, I1, rx, p, vs, ex, hp, hR⟩ => ?_
  subst ex
  obtain ⟨its, rv, pl, hz⟩ := I1.list (.inl (.inl hp))
  cases rx
  refine wpAny_pyIter_list pl.isList ?_
  refine ⟨s1.heap.objs.size, [s1.heap.objs.size], _, Itl X.K p, H1, rfl, I1.kept (t' := s1.toks) fun b o e => Heap.get?_push_of_some _ e, turn_list p _, ⟨_, Heap.get?_push_size _ rfl, rfl, rfl⟩, fun b hb => ?_, hR⟩
  obtain rfl : b = s1.heap.objs.size := by simpa using hb
  exact I1.fpOk (Nat.le_refl _) (I1.hok.fresh (Nat.le_refl _))
/-- what holds between two turns -/
def CloI (nm : Nm) (X : Cx) (W : WX) (fr : Fr) (E : Ends) (ρ : List Addr) (G H5 : Hp) (Dp : Addr) (e : Ev) (i : Nat) (rest : List D → SF) (H : Hp) : Prop := ∃ ρ1 G1 M1 acc vacc, Kp ρ G H5 ρ1 G1 H ∧ Wf nm X.K ρ1 G1 M1 H ∧ H Dp = some (.lst vacc) ∧ G1 Dp = none ∧ Dp ∉ ρ1 ∧ Rps X.K ρ1 G1 acc vacc ∧ acc.length = i ∧
  pG nm X.K fr W (gdS nm X.K fr E) ρ1 G1 (rest acc e M1)
theorem clo_turn {fr : Fr} {E : Ends} {ρ : List Addr} {G H5 H : Hp} {Dp f : Addr} {e : Ev} {M : List MO} {σ : L2.St} {iv i : Nat} {c : EF} {rest : List D → SF} (s : SR nm X.K fr ρ G e M σ H5) (hD : H5 Dp = none) (hi : i ≤ 2)
    (h : CloI nm X W fr E ρ G H5 Dp e i (sClo1 iv c rest) H) :
    tE nm X.K WF0 c ((wipe σ [iv]).set iv (some (.ref f))) H fun y H4 => ∃ acc, H4 Dp = some (.lst acc) ∧ acc.length < sizeLine ∧ CloI nm X W fr E ρ G H5 Dp e (i + 1) rest (upd H4 Dp (.lst (acc ++ [y]))) := by
  obtain ⟨ρ1, G1, M1, acc, vacc, kp, wf, hDp, gD, nD, racc, hle, h1⟩ := h
  have g1 : Same G G1 := kp.grows s.wf.sub
  have s2 := ((s.step kp wf).block [iv]).setNon iv (some (.ref f))
  refine ⟨_, ρ1, G1, (blkE [iv] e).set iv .non, M1, s2, ?_⟩
  unfold sClo1 at h1
  cases qc : noErr (c ((blkE [iv] e).set iv .non) M1) with
  | bad => rw [qc] at h1; exact h1.elim
  | err k fv e2 M2 =>
    exfalso
    cases qq : c ((blkE [iv] e).set iv .non) M1 <;> rw [qq] at qc <;> cases qc
  | ok d e3 M3 =>
    rw [qc] at h1
    rw [noErr_ok qc]
    intro v H4 G4 ρ4 g34 p4 s4 rv
    have nn : NT H Dp := NT.lst hDp
    have d1 : Dp ∉ ρ4 := fun m => (s4.kp.nu Dp m).elim nD fun z => z nn
    have d2 : G4 Dp = none := (s4.kp.fresh Dp nn).trans gD
    have d3 : H4 Dp = some (.lst vacc) := s4.kp.keep _ _ hDp (fun _ z => by cases z) nD
    have r4 : Rps X.K ρ4 G4 acc vacc := racc.mono g34 p4
    have lv := racc.length
    refine ⟨vacc, d3, Nat.lt_of_le_of_lt (show vacc.length ≤ 2 by omega) (by decide), ρ4, G4, M3, acc ++ [d], vacc ++ [v], (kp.trans s4.kp).writeOff (NT.no hD) _, s4.wf.writeOff d2 d1 (Soft.lst d3) (fun _ z => by cases z), upd_same, d2, d1, r4.append (.cons rv .nil), by simp [hle], ?_⟩
    exact pG.mono gdS_mono g34 p4 h1
/-- the list is asked -/
theorem clo_end {fr : Fr} {E : Ends} {ρ : List Addr} {G H5 H : Hp} {Dp : Addr} {e : Ev} {M : List MO} {σ : L2.St} {i : Nat} (s : SR nm X.K fr ρ G e M σ H5) (hD : H5 Dp = none) (h : CloI nm X W fr E ρ G H5 Dp e i sClo2 H) :
    rBi X.K anyB [.ref Dp] H fun x H' => ∃ k, TruV X.K x H' k ∧ if k = true then E.rt (.bl false) H' else E.nx σ H' := by
  obtain ⟨ρ1, G1, M1, acc, vacc, kp, wf, hDp, gD, nD, racc, hle, h1⟩ := h
  have hf : ¬ NT fr.H Dp := fun z => NT.no hD (s.kp.live Dp z)
  have s2 := (s.step kp wf).mark hDp gD nD hf (Soft.lst hDp) fun j xs q z => by
    obtain ⟨a, ws, k1, _, _, _, k5, _⟩ := s.owns j xs q
    rw [z] at k1
    cases k1
    rw [hD] at k5; cases k5
  have g2 : Same G1 (upd G1 Dp (.lst vacc)) := Same.upd gD
  have h2 := pG.mono gdS_mono g2 (Pre.refl _) h1
  unfold sClo2 at h2
  cases q : anyB [.lst acc] with
  | none => rw [q] at h2; exact h2.elim
  | some d =>
    rw [q] at h2
    cases d with
    | bl b =>
      refine ⟨ρ1, _, [.lst acc], .bl b, s2.wf.sub, .cons (.lst upd_same (racc.mono g2 (Pre.refl _))) .nil, q, fun v H' G' n rv => ?_⟩
      cases rv
      have s3 := s2.new n
      have g3 := (n.both s2.wf.sub).1
      refine ⟨b, rfl, ?_⟩
      cases b with
      | true => exact h2 _ _ H' G' ρ1 g3 (Pre.refl _) s3 (.bl false)
      | false => exact h2 _ H' G' ρ1 g3 (Pre.refl _) s3
    | _ => exact h2.elim
theorem wsClo {gd : Bool} {k ic iv j : Nat} {cn vn q : Str} {c P : Addr} {a1 a2 : Arguments} {b1 b2 elt : Expr} {s1 s2 sc : Scope} {l1 l2 p1 p2 p3 p4 p5 p6 p7 p8 p9 p10 p11 p12 p13 p14 : Pos} {c1 c2 : EF} (cc : Cc gd X W k) (LC : LamC X.base X.mg nm q c P)
    (pgc : PG X (.Name cn p1) (gName ic)) (pgv : ∀ s H C cl fp, Cc gd (X.blk s H sc (compEnvC sc cl C X.env) fp) WF0 k → PG (X.blk s H sc (compEnvC sc cl C X.env) fp) (.Name vn p8) (gName iv)) (hany : X.mg "any" = none)
    (he1 : ∀ s H C cl fp, CellsOk X sc cl → Cc gd (X.blk s H sc (compEnvC sc cl C X.env) fp) WF0 k → PE (X.blk s H sc (compEnvC sc cl C X.env) fp) elt (fun σ H Q => KeptL X iv a1 b1 s1 σ H ∧ tE nm X.K WF0 c1 σ H Q))
    (he2 : ∀ s H C cl fp, CellsOk X sc cl → Cc gd (X.blk s H sc (compEnvC sc cl C X.env) fp) WF0 k → PE (X.blk s H sc (compEnvC sc cl C X.env) fp) elt (fun σ H Q => KeptL X iv a2 b2 s2 σ H ∧ tE nm X.K WF0 c2 σ H Q))
    (bo : BlkOk X.N X.env.scope sc [(vn, iv)] := by exact L2.blkOk_by (by kernel_rfl)) (hne : ic ≠ iv := by decide) (hNv : X.N[iv]? = some vn := by rfl)
    (hN : X.N[ic]? = some cn := by rfl) (hv : Vis X.env.scope cn := by first | exact .inl rfl | exact .inr (.inl rfl) | exact .inr (.inr rfl)) (hd : (cn == ("__debug__" : Str)) = false := by decide) (hcd : (cn == ("__classdict__" : Str)) = false := by decide)
    (hcode : X.env.code = .ref c := by rfl) (hq : X.env.qual ++ "<lambda>" = q := by rfl) (hS1 : LamS X.env.scope s1 := by exact LamX.lamS_by (by kernel_rfl)) (hS2 : LamS X.env.scope s2 := by exact LamX.lamS_by (by kernel_rfl))
    (hdef1 : defaultsOf a1 X.env = ([], []) := by rfl) (hdef2 : defaultsOf a2 X.env = ([], []) := by rfl) (hga : Gl X "any" := by rfl)
    (w1 : swapsWithSole [.Name cn p1] (.List [.Lambda a1 b1 s1 l1] p2) p3.line X.env = pure false := by rfl) (w2 : swappedStores [.Name cn p1] (.List [.Lambda a1 b1 s1 l1] p2) X.env = pure none := by rfl)
    (hst1 : starEach [.Lambda a1 b1 s1 l1] X.env = (false, eval (.Lambda a1 b1 s1 l1) X.env) :: starEach [] X.env := by rfl)
    (hbase : attributeBase (.Name cn p4) "append" X.env (eval (.Name cn p4) X.env) = eval (.Name cn p4) X.env := by rfl) (hfew : ((backTo p6 (starEach [.Lambda a2 b2 s2 l2] X.env)).all (fun x => !x.1) && (backToKw p6 (keywordEach [] X.env)).all (fun x => x.1.isSome)
      && decide ([Expr.Lambda a2 b2 s2 l2].length + ([] : List Keyword).length + (if ([] : List Keyword).isEmpty then 0 else 1) < 30)) = true := by rfl) (hline : (p5.endLine == p6.line) = true := by rfl)
    (hst2 : starEach [.Lambda a2 b2 s2 l2] X.env = (false, eval (.Lambda a2 b2 s2 l2) X.env) :: starEach [] X.env := by rfl) (hsw : swapsWith (.Call (.Attribute (.Name cn p4) "append" p5) [.Lambda a2 b2 s2 l2] [] p6) none p6.line X.env = pure false := by rfl)
    (hst3 : starEach [.ListComp elt [⟨.Name vn p8, .Name cn p9, [], 0⟩] sc p10] X.env = (false, eval (.ListComp elt [⟨.Name vn p8, .Name cn p9, [], 0⟩] sc p10) X.env) :: starEach [] X.env := by rfl)
    (hpl : (backTo p11 (starEach [] X.env)).any (·.1) = false := by rfl) (hfs : ∀ x, foldedSetIterable (.Name cn p9) X.env x = pure x := by intro _; rfl)
    (hwh : ∀ whole, isTrue (.Call (.Name "any" p7) [.ListComp elt [⟨.Name vn p8, .Name cn p9, [], 0⟩] sc p10] [] p11) X.env whole = (do let v ← whole; standAt (Expr.Call (.Name "any" p7) [.ListComp elt [⟨.Name vn p8, .Name cn p9, [], 0⟩] sc p10] [] p11).pos; holding [v] (truthy v)) := by intro _; rfl) :
    PSs X [.Assign [.Name cn p1] (.List [.Lambda a1 b1 s1 l1] p2) p3, .Expr (.Call (.Attribute (.Name cn p4) "append" p5) [.Lambda a2 b2 s2 l2] [] p6) p6,
      .If (.Call (.Name "any" p7) [.ListComp elt [⟨.Name vn p8, .Name cn p9, [], 0⟩] sc p10] [] p11) [.Return (some (.Constant (.bool false) j p12)) p13] [] p14] (tS nm X.K W (sClo ic iv c1 c2)) := by
  subst hq
  have mk1 : PE X (.Lambda a1 b1 s1 l1) _ := pe_mk LC.tb hcode LC.hm LC.hu hdef1 hS1
  have mk2 : PE X (.Lambda a2 b2 s2 l2) _ := pe_mk LC.tb hcode LC.hm LC.hu hdef2 hS2
  have pv : ∀ {p : Pos}, PE X (.Name cn p) (tVar ic) := fun {p} => pe_var hN hv hd hcd
  let te : TE := fun σ H Q => (KeptL X iv a1 b1 s1 σ H ∧ tE nm X.K WF0 c1 σ H Q) ∨ (KeptL X iv a2 b2 s2 σ H ∧ tE nm X.K WF0 c2 σ H Q)
  have pel : ∀ s H C cl fp, CellsOk X sc cl → PE (X.blk s H sc (compEnvC sc cl C X.env) fp) elt te := fun s H C cl fp hc => ⟨fun pins s' σ H' Q I h => h.elim (fun h => (he1 s H C cl fp hc (cc.blk s H _ _ fp)).run pins s' σ H' Q I h) fun h => (he2 s H C cl fp hc (cc.blk s H _ _ fp)).run pins s' σ H' Q I h⟩
  have rule : PSs X [.Assign [.Name cn p1] (.List [.Lambda a1 b1 s1 l1] p2) p3, .Expr (.Call (.Attribute (.Name cn p4) "append" p5) [.Lambda a2 b2 s2 l2] [] p6) p6,
      .If (.Call (.Name "any" p7) [.ListComp elt [⟨.Name vn p8, .Name cn p9, [], 0⟩] sc p10] [] p11) [.Return (some (.Constant (.bool false) j p12)) p13] [] p14] _ := (pss_cons (ps_asg (pe_lst (pa_cons mk1 pa_nil hst1)) pgc w1 w2 rfl) (pss_cons (ps_expr (pe_bm PySem.F.plainAttrs_list PySem.F.slot_list_append PySem.F.type_list_append mt_append pv (pa_cons mk2 pa_nil hst2) hbase hfew hline hst2 (by rfl)) hsw)
    (pss_one (ps_if (pt_truth (pe_callB (b_any cc.gx.calm) hga hany rfl (pa_cons (pe_lcK cc.gx.calm cc.gx.nd (pi_raw pv) bo (fun s H C cl fp => pgv s H C cl fp (cc.blk s H _ _ fp)) (fun _ _ _ _ _ => pts_nil) pel hfs) pa_nil hst3) (by decide) (by decide) hst3 hpl) hwh) (pss_one (ps_ret pe_bl)) pss_nil))))
  refine ⟨fun pins sh σ H E I ⟨fr, ρ, G, e, M, s, h⟩ => rule.run pins sh σ H E I ?_⟩
  have hic : ic < σ.length := by rw [I.len]; exact (List.getElem?_eq_some_iff.mp hN).1
  have hiv : iv < σ.length := by rw [I.len]; exact (List.getElem?_eq_some_iff.mp hNv).1
  -- the first lambda, the list
  refine ⟨s.wf.tabs, fun f1 k1 pm1 ct1 H1 x1 t1 n1 o1 => ⟨show 1 ≤ sizeLine by decide, fun p hp => ?_⟩⟩
  have sA := s.step (Kp.ext' x1) (s.wf.ext x1 t1)
  have sB := sA.track n1 (o := CloT f1 (cloO X a1 b1 s1 pm1 k1 ct1)) cloT_nt
  have f1p : f1 ≠ p := fun z => by rw [z, upd_same] at hp; cases hp
  have k1f : k1 ≠ f1 := ne_of_none o1 n1
  have k1p : k1 ≠ p := fun z => by rw [← z, upd_ne k1f, o1] at hp; cases hp
  have gp := sB.wf.none_of hp
  have np := sB.wf.nin_of hp
  have hfp : ¬ NT fr.H p := fun z => NT.no hp (sB.kp.live p z)
  have sC := (sB.track hp (o := .lst [.ref f1]) (by intro _ z; cases z)).setNon ic (some (.ref p))
  have slc : (σ.set ic (some (.ref p)))[ic]? = some (some (V.ref p)) := List.getElem?_set_self hic
  have own : ∀ (j : Nat) ys, (e.set ic .non)[j]? = some (.own ys) → (σ.set ic (some (.ref p)))[j]? ≠ some (some (.ref p)) := fun j ys q z => by
    obtain ⟨hj, q⟩ := set_non q (by simp)
    rw [List.getElem?_set_ne (Ne.symm hj)] at z
    obtain ⟨a, vs, e1, _, _, _, e5, _⟩ := sB.owns j ys q
    rw [z] at e1
    cases e1
    rw [hp] at e5
    cases e5
  -- the second one
  refine ⟨_, slc, .inl ⟨rfl, _, .inl (.inl upd_same)⟩, sC.wf.tabs, fun f2 k2 pm2 ct2 H3 x3 t3 n3 o3 => ?_⟩
  have sD := sC.step (Kp.ext' x3) (sC.wf.ext x3 t3)
  have sE := sD.track n3 (o := CloT f2 (cloO X a2 b2 s2 pm2 k2 ct2)) cloT_nt
  have e3p : H3 p = some (.lst [.ref f1]) := x3 _ _ upd_same (by intro _ z; cases z)
  have e3f : H3 f1 = some (CloT f1 (cloO X a1 b1 s1 pm1 k1 ct1)) := x3 _ _ (by rw [upd_ne f1p, upd_same]) cloT_nt
  have e3k : H3 k1 = some (CodeO k1 (X.env.qual ++ "<lambda>")) := x3 _ _ (by rw [upd_ne k1p, upd_ne k1f]; exact o1) codeO_ne
  have pf2 : p ≠ f2 := ne_of_none e3p n3
  have f1f2 : f1 ≠ f2 := ne_of_none e3f n3
  have k1f2 : k1 ≠ f2 := ne_of_none e3k n3
  have k2f2 : k2 ≠ f2 := ne_of_none o3 n3
  have k2p : k2 ≠ p := ne_of o3 e3p (by unfold CodeO; intro z; cases z)
  refine ⟨p, [.ref f1], .ref f2, rfl, rfl, (upd_ne pf2).trans e3p, show 1 < sizeLine by decide, ?_⟩
  have sF := sE.writeRaw (ws := [.ref f1] ++ [.ref f2]) ((upd_ne pf2).trans e3p) gp np hfp own
  generalize hH5 : upd (upd H3 f2 (CloT f2 (cloO X a2 b2 s2 pm2 k2 ct2))) p (.lst ([.ref f1] ++ [.ref f2])) = H5 at sF
  have h5p : H5 p = some (.lst [.ref f1, .ref f2]) := by rw [← hH5]; exact upd_same
  have h5f1 : H5 f1 = some (CloT f1 (cloO X a1 b1 s1 pm1 k1 ct1)) := by rw [← hH5, upd_ne f1p, upd_ne f1f2]; exact e3f
  have h5f2 : H5 f2 = some (CloT f2 (cloO X a2 b2 s2 pm2 k2 ct2)) := by rw [← hH5, upd_ne (Ne.symm pf2), upd_same]
  have h5k1 : H5 k1 = some (CodeO k1 (X.env.qual ++ "<lambda>")) := by rw [← hH5, upd_ne k1p, upd_ne k1f2]; exact e3k
  have h5k2 : H5 k2 = some (CodeO k2 (X.env.qual ++ "<lambda>")) := by rw [← hH5, upd_ne k2p, upd_ne k2f2]; exact o3
  have nf1 : f1 ∉ ρ := sA.wf.nin_of n1
  have nf2 : f2 ∉ ρ := sD.wf.nin_of n3
  have nk1 : k1 ∉ ρ := sA.wf.code_nin o1
  have nk2 : k2 ∉ ρ := sD.wf.code_nin o3
  -- asked
  refine ⟨_, slc, p, [.ref f1, .ref f2], rfl, h5p, fun Dp hD => ?_⟩
  generalize hσ : σ.set ic (some (V.ref p)) = σ5 at sF
  have hl5 : σ5.length = σ.length := by rw [← hσ, List.length_set]
  have we : ∀ f : Addr, wipe ((wipe σ5 [iv]).set iv (some (V.ref f))) [iv] = wipe σ5 [iv] := fun f => by simp [wipe]
  have sl : ∀ f : Addr, ((wipe σ5 [iv]).set iv (some (V.ref f)))[iv]? = some (some (V.ref f)) := fun f => List.getElem?_set_self (by rw [wipe_length, hl5]; exact hiv)
  have kept : ∀ {i rest H6 a o}, CloI nm X W fr E ρ G H5 Dp (e.set ic .non) i rest H6 → H5 a = some o → (∀ ps, o ≠ .tbl ps) → a ∉ ρ → H6 a = some o := fun {i rest H6 a o} ⟨_, _, _, _, _, kp, _⟩ h1 h2 h3 => kp.keep _ _ h1 h2 h3
  refine ⟨fun i m H6 => m = 2 - i ∧ ((i = 0 ∧ CloI nm X W fr E ρ G H5 Dp (e.set ic .non) 0 (sClo1 iv c1 (sClo1 iv c2 sClo2)) H6) ∨ (i = 1 ∧ CloI nm X W fr E ρ G H5 Dp (e.set ic .non) 1 (sClo1 iv c2 sClo2) H6) ∨ (i = 2 ∧ CloI nm X W fr E ρ G H5 Dp (e.set ic .non) 2 sClo2 H6)),
    ⟨2, rfl, .inl ⟨rfl, ρ, G, M, [], [], Kp.refl.writeOff (NT.no hD) _, sF.wf.writeOff (sF.wf.none_of hD) (sF.wf.nin_of hD) (Soft.none hD) (fun _ z => by cases z), upd_same, sF.wf.none_of hD, sF.wf.nin_of hD, .nil, rfl, h⟩⟩, ?_⟩
  rintro i m H6 ⟨rfl, ⟨rfl, hI⟩ | ⟨rfl, hI⟩ | ⟨rfl, hI⟩⟩
  · have e6 := kept hI h5p (by intro _ z; cases z) np
    refine .inr ⟨⟨_, .ref f1, .inl (.inl e6), rfl⟩, CloI nm X W fr E ρ G H5 Dp (e.set ic .non) 1 (sClo1 iv c2 sClo2), fun H' q => ⟨1, by decide, rfl, .inr (.inl ⟨rfl, q⟩)⟩, fun x H' y => ?_⟩
    obtain ⟨rfl, y⟩ := y
    have ex : some (V.ref f1) = some x := y [.ref f1, .ref f2] (.inl (.inl e6))
    cases ex
    refine ⟨we f1, ?_⟩
    change te _ _ _
    exact Or.inl ⟨⟨f1, k1, pm1, ct1, sl f1, kept hI h5f1 cloT_nt nf1, kept hI h5k1 codeO_ne nk1⟩, clo_turn sF hD (by decide) hI⟩
  · have e6 := kept hI h5p (by intro _ z; cases z) np
    refine .inr ⟨⟨_, .ref f2, .inl (.inl e6), rfl⟩, CloI nm X W fr E ρ G H5 Dp (e.set ic .non) 2 sClo2, fun H' q => ⟨0, by decide, rfl, .inr (.inr ⟨rfl, q⟩)⟩, fun x H' y => ?_⟩
    obtain ⟨rfl, y⟩ := y
    have ex : some (V.ref f2) = some x := y [.ref f1, .ref f2] (.inl (.inl e6))
    cases ex
    refine ⟨we f2, ?_⟩
    change te _ _ _
    exact Or.inr ⟨⟨f2, k2, pm2, ct2, sl f2, kept hI h5f2 cloT_nt nf2, kept hI h5k2 codeO_ne nk2⟩, clo_turn sF hD (by decide) hI⟩
  · have e6 := kept hI h5p (by intro _ z; cases z) np
    exact .inl ⟨⟨_, .inl (.inl e6), Nat.le_refl _⟩, clo_end sF hD hI⟩
end
end PM

namespace PM
open PySem PySem.Spec PyProof.Rows L2 LamX
/-! ### readings under a look at the state's front -/
theorem clo_same {X : Cx} {sc scope : Scope} {cl : List (Str × Addr)} (hc : CellsOk X sc cl) (h : (scope.names.all fun y => !decide (y.2 = .free) || decide (sc.names.lookup y.1 = some .free)) = true) : cloFrom X.env.cells scope.names [] = cloFrom cl scope.names [] :=
  cloFrom_same fun y hy e => (hc y.1 (by
    have z := List.all_eq_true.mp h y hy
    rw [e] at z
    simpa using z)).symm
section
variable {X : Cx} {nm : Nm} {W : WX} {pos : Pos} {a b : Expr} {fa fb : EF} {P : L2.St → Hp → Prop} {gd : Bool} {k : Nat}
theorem wBiP {id : String} {x : Str} {p : Pos} {g : List D → Option D} (hc : CallR X (.builtin id) (rBi X.K g)) (hm : X.mg x = none) (hv : bootBuiltins x = some (.builtin id)) (ha : PE X a (fun σ H Q => P σ H ∧ tE nm X.K W fa σ H Q)) (hg : Gl X x := by rfl) (hn : x ≠ "__name__" := by decide) (hdb : (x == ("__debug__" : Str)) = false := by decide)
    (he : starEach [a] X.env = (false, eval a X.env) :: starEach [] X.env := by rfl) (hpl : (backTo pos (starEach [] X.env)).any (·.1) = false := by rfl) :
    PE X (.Call (.Name x p) [a] [] pos) (fun σ H Q => P σ H ∧ tE nm X.K W (eBi g (aC fa aN)) σ H Q) := by
  refine (pe_callB hc hg hm hv (pa_cons ha pa_nil he) hn hdb he hpl).imp fun σ H Q ⟨hP, fr, ρ, G, e, M, s, h⟩ => ⟨hP, ?_⟩
  have h : pG nm X.K fr W (gdE nm X.K fr σ Q) ρ G ((fa e M).bind fun d e M => lift (g [d]) e M) := by
    have q : eBi g (aC fa aN) e M = (fa e M).bind fun d e M => lift (g [d]) e M := by
      unfold eBi aC aN
      cases fa e M <;> rfl
    rw [← q]
    exact h
  refine tE.bind gdE_mono s h fun ρ1 G1 e1 M1 d v H1 g1 p1 s1 r1 h1 => ?_
  cases q : g [d] with
  | none => rw [q] at h1; exact h1.elim
  | some d' =>
    rw [q] at h1
    exact ⟨ρ1, G1, [d], d', s1.wf.sub, .cons r1 .nil, q, fun v H' G' n rv => h1 v H' G' ρ1 (n.both s1.wf.sub).1 (Pre.refl _) (s1.new n) rv⟩
theorem wQP (cc : Cc gd X W k) {o : Cop} (ha : PE X a (fun σ H Q => P σ H ∧ tE nm X.K W fa σ H Q)) (hb : PE X b (tE nm X.K W fb)) (hm : behindInMarks (cpA o) b = false := by rfl) :
    PE X (.Compare a [cpA o] [b] pos) (fun σ H Q => P σ H ∧ tE nm X.K W (eQ o fa fb) σ H Q) :=
  (pe_cmpR (cmp_ok cc.gx.hu o) ha hb hm).imp fun σ H Q ⟨hP, fr, ρ, G, e, M, s, h⟩ => ⟨hP, bin_step (g := fun x y => (cmpD o x y).map .bl) (fun _ _ _ _ h => rCp_rOp h) s h⟩
end
end PM

namespace PM
open PySem PySem.Spec PyProof.Rows L2 LamX
/-! ### a def by another name -/
section
variable {gd : Bool} {P : Program} {w : World} {K : Frg} {mg : Str → Option Value} {base : Heap} {nm : Nm} {k n m : Nat} {x y qual : Str} {params : Arguments} {body : List Stmt} {scope : Scope} {f : Addr} {fd : FuncData} {ps : List Str} {b : SF}
theorem df_mkA (F : FunD K y qual params body scope [] [] f fd) (hm : mg x = some (.ref f)) (hb : Binds K fd ps []) (Fn : FnG gd P w K mg base k f fd ps (spD nm K n (defC n m b))) : Df gd P w K mg base nm x k n (defC n m b) :=
  ⟨⟨f, fd, ps, Fn, hb, hm, F.kp⟩, defC_len⟩
end
/-! ### gcd, a built-in function that a name of the module holds -/
def gcdB : List D → Option D
  | [.int i, .int j] => some (.int ((Nat.gcd i.natAbs j.natAbs : Nat) : Int))
  | _ => none
section
variable {X : Cx} {nm : Nm} {W : WX} {pos : Pos} {a : Expr} {es : List Expr} {ga : AF}
theorem b_gcd : CallR X (.builtin "math.gcd") (rBi X.K gcdB) := CallR.imp cr_gcd fun xs H Q ⟨ρ, G, ds, d, hs, r, h, q⟩ => by
  unfold gcdB at h
  split at h
  · obtain ⟨v, v', rfl, a, b⟩ := r.two
    cases a; cases b; cases h
    exact ⟨_, _, rfl, q.sc (.int _)⟩
  · cases h
theorem wBf {id : String} {x : Str} {p : Pos} {g : List D → Option D} (hc : CallR X (.builtin id) (rBi X.K g)) (hm : X.mg x = some (.builtin id)) (hx : PA X (a :: es) (tA nm X.K W ga)) (hg : Gl X x := by rfl) (hdb : (x == ("__debug__" : Str)) = false := by decide)
    (he : starEach (a :: es) X.env = (false, eval a X.env) :: starEach es X.env := by rfl) (hpl : (backTo pos (starEach es X.env)).any (·.1) = false := by rfl) : PE X (.Call (.Name x p) (a :: es) [] pos) (tE nm X.K W (eBi g ga)) :=
  (pe_callBfun hc hg hm hx hdb he hpl).imp fun σ H Q ⟨fr, ρ, G, e, M, s, h⟩ => bi_step s h
end
/-! ### while -/
def whL (t : TF) (b : SF) : Nat → SF
  | 0, _, _ => .bad
  | n + 1, e, M => (t e M).bind fun k e M => match k with
    | true => (match b e M with
      | .ok .nx e M => whL t b n e M
      | .ok .ct e M => whL t b n e M
      | .ok .bk e M => .ok .nx e M
      | .ok (.rt d) e M => .ok (.rt d) e M
      | .err c v e M => .err c v e M
      | .bad => .bad)
    | false => .ok .nx e M
/-- so many turns at most -/
def sWh (t : TF) (b : SF) : SF := whL t b 4000
section
variable {X : Cx} {nm : Nm} {W : WX} {pos : Pos}
theorem wsWh {c : Expr} {body : List Stmt} {t : TF} {b : SF} (hp : PassesOwn (model X.prog X.w) X.A X.env X.xe) (hc : PT X c (tT nm X.K W t)) (hb : PSs X body (tS nm X.K W b)) : PS X (.While c body [] pos) (tS nm X.K W (sWh t b)) := by
  refine (ps_while hp hc hb).imp fun E σ H ⟨fr, ρ, G, e, M, s, h⟩ => ?_
  refine ⟨fun m σ H => ∃ ρ1 G1 e1 M1, SR nm X.K fr ρ1 G1 e1 M1 σ H ∧ pG nm X.K fr W (gdS nm X.K fr E) ρ1 G1 (whL t b m e1 M1), ⟨4000, ρ, G, e, M, s, h⟩, ?_⟩
  rintro m σ1 H1 ⟨ρ1, G1, e1, M1, s1, h1⟩
  cases m with
  | zero => exact h1.elim
  | succ n =>
    have h1 : pG nm X.K fr W (gdS nm X.K fr E) ρ1 G1 ((t e1 M1).bind fun k e M => match k with
      | true => (match b e M with
        | .ok .nx e M => whL t b n e M
        | .ok .ct e M => whL t b n e M
        | .ok .bk e M => .ok .nx e M
        | .ok (.rt d) e M => .ok (.rt d) e M
        | .err c v e M => .err c v e M
        | .bad => .bad)
      | false => .ok .nx e M) := h1
    refine tT.bind gdS_mono s1 h1 fun ρ2 G2 e2 M2 k H2 g2 p2 s2 h2 => ?_
    cases k with
    | false =>
      rw [if_neg (by decide)]
      exact h2 σ1 H2 G2 ρ2 (Same.refl _) (Pre.refl _) s2
    | true =>
      rw [if_pos rfl]
      refine ⟨fun σ' H' => ∃ ρ3 G3 e3 M3, SR nm X.K fr ρ3 G3 e3 M3 σ' H' ∧ pG nm X.K fr W (gdS nm X.K fr E) ρ3 G3 (whL t b n e3 M3), fun σ' H' q => ⟨n, Nat.lt_succ_self n, q⟩, fr, ρ2, G2, e2, M2, s2, ?_⟩
      simp only at h2
      cases q : b e2 M2 with
      | bad => rw [q] at h2; exact h2
      | err c v e3 M3 => rw [q] at h2; exact h2
      | ok fl e3 M3 =>
        rw [q] at h2
        cases fl with
        | nx => exact fun σ' H' G' ρ' a b' s' => ⟨ρ', G', e3, M3, s', pG.mono gdS_mono a b' h2⟩
        | ct => exact fun σ' H' G' ρ' a b' s' => ⟨ρ', G', e3, M3, s', pG.mono gdS_mono a b' h2⟩
        | bk => exact h2
        | rt d => exact h2
end
end PM

namespace PM
open PySem PySem.Spec PyProof.Rows L2
def top (i : Nat) : Stmt := PySem.Challenge.pw_helpingmarks_k85_consoles_not_understood.main.body.getD i (.Pass ⟨0, 0, 0, 0⟩)
def tb_LENGTHS : List (Int × Int) := [(2, 1), (4, 2), (8, 3)]
def tk_SIZES : List (Str × Int) := [("count", 2), ("drop", 2)]
def tb_SIZES : Str → Option Int := fun z => tk_SIZES.lookup z

structure Mo (P : Program) (w : World) (K : Frg) (mg : Str → Option Value) (base : Heap) (nm : Nm) : Prop where
  n_abs : mg "abs" = none
  n_all : mg "all" = none
  n_bool : mg "bool" = none
  n_dict : mg "dict" = none
  n_enumerate : mg "enumerate" = none
  n_int : mg "int" = none
  n_isinstance : mg "isinstance" = none
  n_len : mg "len" = none
  n_list : mg "list" = none
  n_max : mg "max" = none
  n_min : mg "min" = none
  n_range : mg "range" = none
  n_repr : mg "repr" = none
  n_sorted : mg "sorted" = none
  n_str : mg "str" = none
  n_sum : mg "sum" = none
  n_tuple : mg "tuple" = none
  n_zip : mg "zip" = none
  c_FIGURES : ∃ t, mg "FIGURES" = some (.str "0123456789" t)
  c_MOST_MARKS : ∃ t, mg "MOST_MARKS" = some (.int 3 t)
  c_MOST_NUMBER : ∃ t, mg "MOST_NUMBER" = some (.int 99 t)
  c_SIGNS : ∃ t, mg "SIGNS" = some (.str "01" t)
  c_FULL : ∃ t, mg "FULL" = some (.str "full" t)
  c_NONE_tallies : ∃ t, mg "NONE_tallies" = some (.str "none" t)
  c_LAST : ∃ t, mg "LAST" = some (.str "last" t)
  c_HINDERS : ∃ t, mg "HINDERS" = some (.str "hinders" t)
  c_LOST : ∃ t, mg "LOST" = some (.str "not understood" t)
  c_DONE : ∃ t, mg "DONE" = some (.str "done" t)
  c_NONE_consoles : ∃ t, mg "NONE_consoles" = some (.str "none" t)
  c_NOTHING : ∃ t, mg "NOTHING" = some (.str "nothing" t)
  c_YES : ∃ t, mg "YES" = some (.str "yes" t)
  c_NO : ∃ t, mg "NO" = some (.str "no" t)
  t_LENGTHS : ∃ d, mg "LENGTHS" = some (.ref d) ∧ TbI K d tb_LENGTHS
  t_SIZES : ∃ d, mg "SIZES" = some (.ref d) ∧ TbS K w d tb_SIZES
  y_int : TyG nm K .int (.type "int")
  y_bool : TyG nm K .bool (.type "bool")
  y_str : TyG nm K .str (.type "str")
  y_tuple : TyG nm K .tuple (.type "tuple")
  y_list : TyG nm K .list (.type "list")
  g_Tally : mg "Tally" = some (.ref (nm.cls 0))
  y_Tally : TyG nm K (.own 0) (.ref (nm.cls 0))
  mk_Tally : ∀ f, Meth K (nm.cls 0) "__init__" f → Mk K (nm.cls 0) f
  g_Console : mg "Console" = some (.ref (nm.cls 1))
  y_Console : TyG nm K (.own 1) (.ref (nm.cls 1))
  mk_Console : ∀ f, Meth K (nm.cls 1) "__init__" f → Mk K (nm.cls 1) f
  cl : ∀ k, Cls K (nm.cls k)
  f0 : nm.fld 0 = "marks"
  f1 : nm.fld 1 = "table"
  f2 : nm.fld 2 = "deeds"
  f3 : nm.fld 3 = "past"
  f4 : nm.fld 4 = "tally"
  f5 : nm.fld 5 = "given"
  f6 : nm.fld 6 = "index"
  f7 : nm.fld 7 = "reason"
  fl : ∀ f, f < 8 → FlOk nm K f
  nof : ∀ x : Str, x ∉ (["marks", "table", "deeds", "past", "tally", "given", "index", "reason"] : List Str) → x.cps.size < 40 → ∀ f, nm.fld f ≠ x
section
variable {P : Program} {w : World} {K : Frg} {mg : Str → Option Value} {base : Heap} {nm : Nm}
def B__law_pool : SF := (sC (sG (gT [gN 2, gN 3]) (eT (aC (eBi sumB (aC (eS (eV 0) (oS (eV 1)) (oS (eB .add (eV 1) (eC (.int 1))))) aN)) (aC (eB .add (eC (.int 50021)) (eB .mul (eC (.int 977)) (eV 1))) aN))))
  (sC (sA 4 (eB .mul (eB .mul (eB .mul (eB .mul (eB .mul (eB .pow (eC (.int 10)) (eC (.int 64))) (eB .pow (eC (.int 10)) (eC (.int 64)))) (eB .pow (eC (.int 10)) (eC (.int 64)))) (eB .pow (eC (.int 10)) (eC (.int 64)))) (eB .pow (eC (.int 10)) (eC (.int 64)))) (eB .pow (eC (.int 10)) (eC (.int 64)))))
  (sC (sFo (.nm 5) (iS (eS (eV 0) oN (oS (eC (.int 12))))) (sC (sA 3 (eB .mod (eB .add (eB .add (eB .mul (eV 3) (eC (.int 48271))) (eB .mul (eB .mod (eV 5) (eC (.int 2147483399))) (eC (.int 19)))) (eC (.int 7))) (eC (.int 2147483399))))
  sN))
  (sC (sR (eMl (aC (eI (tOr (tQ .lt (eV 2) (eC (.int 0))) (tQ .ge (eV 2) (eB .pow (eC (.int 10)) (eC (.int 18))))) (eB .mod (eBi absB (aC (eV 2) aN)) (eV 4)) (eC (.int 0))) (aC (eV 3) (aC (eC (.int 0)) aN)))))
  sN))))
def F__law_pool : CF := defC 2 4 B__law_pool
theorem p__law_pool (m : Mo P w K mg base nm) {f : Addr} {fd : FuncData} (F : FnQ K "_law_pool" "_law_pool" (top 83) f fd) : FnG false P w K mg base 1 f fd ["script", "k"] (spD nm K 2 F__law_pool) :=
  (def_of (N := ["script", "k", "cell", "mixed", "wide", "each"]) (ps := ["script", "k"]) (m := 4) (b := B__law_pool) F ⟨rfl, rfl, rfl, by decide +kernel, rfl, by decide +kernel, by decide +kernel⟩ rfl (by decide +kernel) fun cdv A outer s H E cc =>
    (wsC (wsP cc (wAC (wBi (b_sum rfl) m.n_sum rfl (wAC (wS wVar (wOS wVar) (wOS (wB (o := .add) wVar wInt))) wAN)) (wAC (wB (o := .add) wInt (wB (o := .mul) wInt wVar)) wAN)))
    (wsC (wsA (wgN cc) (wB (o := .mul) (wB (o := .mul) (wB (o := .mul) (wB (o := .mul) (wB (o := .mul) (wB (o := .pow) wInt wInt) (wB (o := .pow) wInt wInt)) (wB (o := .pow) wInt wInt)) (wB (o := .pow) wInt wInt)) (wB (o := .pow) wInt wInt)) (wB (o := .pow) wInt wInt)))
    (wsC (wsF cc (passes_of rfl) tg_name (wgN cc) (wiS (wS wVar wON (wOS wInt))) (wsC (wsA (wgN cc) (wB (o := .mod) (wB (o := .add) (wB (o := .add) (wB (o := .mul) wVar wInt) (wB (o := .mul) (wB (o := .mod) wVar wInt) wInt)) wInt) wInt))
    wsN))
    (wsC (wsR (wMl (wAC (wI (wW (wTO (wTQ (o := .lt) cc wVar wInt) (wO1 (wTQ (o := .ge) cc wVar (wB (o := .pow) wInt wInt))))) (wB (o := .mod) (wBi b_abs m.n_abs rfl (wAC wVar wAN)) wVar) wInt) (wAC wVar (wAC wInt wAN)))))
    wsN)))))
theorem q__law_pool (m : Mo P w K mg base nm) {f : Addr} {fd : FuncData} (F : FnQ K "_law_pool" "_law_pool" (top 83) f fd) (hm : mg "_law_pool" = some (.ref f)) : Df false P w K mg base nm "_law_pool" 1 2 F__law_pool :=
  df_mkA F hm (F.bindsN fun _ _ _ _ _ _ us hl => match us, hl with | [_, _], _ => rfl) (p__law_pool m  F)

def B_check_tally : SF := (sC (sI (tN (tE1 (eIs (eV 0) (.own 0)))) (sC (sRa 3 5 (eV 0))
  sN) sN)
  sN)
def F_check_tally : CF := defC 1 0 B_check_tally
theorem p_check_tally (m : Mo P w K mg base nm) {f : Addr} {fd : FuncData} (h_NotATally : Ec P w K mg base nm "NotATally" 3 5 1) (F : FnQ K "check_tally" "check_tally" (top 67) f fd) : FnG false P w K mg base 3 f fd ["value"] (spD nm K 1 F_check_tally) :=
  (def_of (N := ["value"]) (ps := ["value"]) (m := 0) (b := B_check_tally) F ⟨rfl, rfl, rfl, by decide +kernel, rfl, by decide +kernel, by decide +kernel⟩ rfl (by decide +kernel) fun cdv A outer s H E cc =>
    (wsC (wsI (wTN (wT1 (wIsC wVar m.g_Tally m.y_Tally m.n_isinstance))) (wsC (wsRa cc h_NotATally wVar)
    wsN) wsN)
    wsN))
theorem q_check_tally (m : Mo P w K mg base nm) {f : Addr} {fd : FuncData} (h_NotATally : Ec P w K mg base nm "NotATally" 3 5 1) (F : FnQ K "check_tally" "check_tally" (top 67) f fd) (hm : mg "check_tally" = some (.ref f)) : Df false P w K mg base nm "check_tally" 3 1 F_check_tally :=
  df_mkA F hm (F.bindsN fun _ _ _ _ _ _ us hl => match us, hl with | [_], _ => rfl) (p_check_tally m h_NotATally F)

def B_is_whole : SF := (sC (sR (eAn (eIs (eV 0) .int) (eNot (eIs (eV 0) .bool))))
  sN)
def F_is_whole : CF := defC 1 0 B_is_whole
theorem p_is_whole (m : Mo P w K mg base nm) {f : Addr} {fd : FuncData} (F : FnQ K "is_whole" "is_whole" (top 11) f fd) : FnG false P w K mg base 1 f fd ["value"] (spD nm K 1 F_is_whole) :=
  (def_of (N := ["value"]) (ps := ["value"]) (m := 0) (b := B_is_whole) F ⟨rfl, rfl, rfl, by decide +kernel, rfl, by decide +kernel, by decide +kernel⟩ rfl (by decide +kernel) fun cdv A outer s H E cc =>
    (wsC (wsR (wAn (wIsB wVar m.n_int rfl m.y_int m.n_isinstance) (wE1 (wNot (wIsB wVar m.n_bool rfl m.y_bool m.n_isinstance)))))
    wsN))
theorem q_is_whole (m : Mo P w K mg base nm) {f : Addr} {fd : FuncData} (F : FnQ K "is_whole" "is_whole" (top 11) f fd) (hm : mg "is_whole" = some (.ref f)) : Df false P w K mg base nm "is_whole" 1 1 F_is_whole :=
  df_mkA F hm (F.bindsN fun _ _ _ _ _ _ us hl => match us, hl with | [_], _ => rfl) (p_is_whole m  F)

def B_is_between : SF := (sC (sR (eAn (eCa F_is_whole (aC (eV 0) aN)) (eCh .le .le (eV 1) (eV 0) (eV 2))))
  sN)
def F_is_between : CF := defC 3 0 B_is_between
theorem p_is_between (m : Mo P w K mg base nm) {f : Addr} {fd : FuncData} (h_is_whole : Df false P w K mg base nm "is_whole" 1 1 F_is_whole) (F : FnQ K "is_between" "is_between" (top 12) f fd) : FnG false P w K mg base 2 f fd ["value", "least", "most"] (spD nm K 3 F_is_between) :=
  (def_of (N := ["value", "least", "most"]) (ps := ["value", "least", "most"]) (m := 0) (b := B_is_between) F ⟨rfl, rfl, rfl, by decide +kernel, rfl, by decide +kernel, by decide +kernel⟩ rfl (by decide +kernel) fun cdv A outer s H E cc =>
    (wsC (wsR (wAn (wCa cc h_is_whole (wAC wVar wAN)) (wE1 (wCh (o := .le) (p := .le) cc wVar wVar wVar))))
    wsN))
theorem q_is_between (m : Mo P w K mg base nm) {f : Addr} {fd : FuncData} (h_is_whole : Df false P w K mg base nm "is_whole" 1 1 F_is_whole) (F : FnQ K "is_between" "is_between" (top 12) f fd) (hm : mg "is_between" = some (.ref f)) : Df false P w K mg base nm "is_between" 2 3 F_is_between :=
  df_mkA F hm (F.bindsN fun _ _ _ _ _ _ us hl => match us, hl with | [_, _, _], _ => rfl) (p_is_between m h_is_whole F)

def B_is_marks : SF := (sC (sR (eCa F_is_between (aC (eV 0) (aC (eC (.int 1)) (aC (eC (.int 3)) aN)))))
  sN)
def F_is_marks : CF := defC 1 0 B_is_marks
theorem p_is_marks (m : Mo P w K mg base nm) {f : Addr} {fd : FuncData} (h_is_between : Df false P w K mg base nm "is_between" 2 3 F_is_between) (F : FnQ K "is_marks" "is_marks" (top 26) f fd) : FnG false P w K mg base 3 f fd ["value"] (spD nm K 1 F_is_marks) :=
  (def_of (N := ["value"]) (ps := ["value"]) (m := 0) (b := B_is_marks) F ⟨rfl, rfl, rfl, by decide +kernel, rfl, by decide +kernel, by decide +kernel⟩ rfl (by decide +kernel) fun cdv A outer s H E cc =>
    (wsC (wsR (wCa cc h_is_between (wAC wVar (wAC wInt (wAC (wGInt m.c_MOST_MARKS) wAN)))))
    wsN))
theorem q_is_marks (m : Mo P w K mg base nm) {f : Addr} {fd : FuncData} (h_is_between : Df false P w K mg base nm "is_between" 2 3 F_is_between) (F : FnQ K "is_marks" "is_marks" (top 26) f fd) (hm : mg "is_marks" = some (.ref f)) : Df false P w K mg base nm "is_marks" 3 1 F_is_marks :=
  df_mkA F hm (F.bindsN fun _ _ _ _ _ _ us hl => match us, hl with | [_], _ => rfl) (p_is_marks m h_is_between F)

def B_check_marks : SF := (sC (sI (tN (tE1 (eCa F_is_marks (aC (eV 0) aN)))) (sC (sRa 1 5 (eV 0))
  sN) sN)
  sN)
def F_check_marks : CF := defC 1 0 B_check_marks
theorem p_check_marks (m : Mo P w K mg base nm) {f : Addr} {fd : FuncData} (h_is_marks : Df false P w K mg base nm "is_marks" 3 1 F_is_marks) (h_InvalidNumber : Ec P w K mg base nm "InvalidNumber" 1 5 1) (F : FnQ K "check_marks" "check_marks" (top 27) f fd) : FnG false P w K mg base 4 f fd ["marks"] (spD nm K 1 F_check_marks) :=
  (def_of (N := ["marks"]) (ps := ["marks"]) (m := 0) (b := B_check_marks) F ⟨rfl, rfl, rfl, by decide +kernel, rfl, by decide +kernel, by decide +kernel⟩ rfl (by decide +kernel) fun cdv A outer s H E cc =>
    (wsC (wsI (wTN (wT1 (wCa cc h_is_marks (wAC wVar wAN)))) (wsC (wsRa cc h_InvalidNumber wVar)
    wsN) wsN)
    wsN))
theorem q_check_marks (m : Mo P w K mg base nm) {f : Addr} {fd : FuncData} (h_is_marks : Df false P w K mg base nm "is_marks" 3 1 F_is_marks) (h_InvalidNumber : Ec P w K mg base nm "InvalidNumber" 1 5 1) (F : FnQ K "check_marks" "check_marks" (top 27) f fd) (hm : mg "check_marks" = some (.ref f)) : Df false P w K mg base nm "check_marks" 4 1 F_check_marks :=
  df_mkA F hm (F.bindsN fun _ _ _ _ _ _ us hl => match us, hl with | [_], _ => rfl) (p_check_marks m h_is_marks h_InvalidNumber F)

def B_rows_by : SF := (sC (sA 1 (eL (aC (eT aN) aN)))
  (sC (sFo (.nm 2) (iR1 (aC (eV 0) aN)) (sC (sA 1 (eCo2 [3, 4] (.nm 3) (iS (eV 1)) [4] (.nm 4) (iS (eT (aC (eC (.int 0)) (aC (eC (.int 1)) aN)))) cY (eT (aS (eV 3) (aC (eV 4) aN)))))
  sN))
  (sC (sR (eV 1))
  sN)))
def F_rows_by : CF := defC 1 4 B_rows_by
theorem p_rows_by (m : Mo P w K mg base nm) {f : Addr} {fd : FuncData} (F : FnQ K "rows_by" "rows_by" (top 30) f fd) : FnG false P w K mg base 1 f fd ["marks"] (spD nm K 1 F_rows_by) :=
  (def_of (N := ["marks", "found", "turn", "row", "own"]) (ps := ["marks"]) (m := 4) (b := B_rows_by) F ⟨rfl, rfl, rfl, by decide +kernel, rfl, by decide +kernel, by decide +kernel⟩ rfl (by decide +kernel) fun cdv A outer s H E cc =>
    (wsC (wsA (wgN cc) (wL (wAC (wT wAN) wAN)))
    (wsC (wsF cc (passes_of rfl) tg_name (wgN cc) (wiR1 m.n_range (wAC wVar wAN)) (wsC (wsCo2 ([("row", 3), ("own", 4)]) ([4]) cc (wiS wVar) (fun s H C cl fp cc' => ⟨(wgN cc'), (wiS (wT (wAC wInt (wAC wInt wAN)))), (wgN cc'), wcY, (wT (wAS wVar (wAC wVar wAN)))⟩) tg_name tg_name)
    wsN))
    (wsC (wsR wVar)
    wsN))))
theorem q_rows_by (m : Mo P w K mg base nm) {f : Addr} {fd : FuncData} (F : FnQ K "rows_by" "rows_by" (top 30) f fd) (hm : mg "rows_by" = some (.ref f)) : Df false P w K mg base nm "rows_by" 1 1 F_rows_by :=
  df_mkA F hm (F.bindsN fun _ _ _ _ _ _ us hl => match us, hl with | [_], _ => rfl) (p_rows_by m  F)

def B_Tally___init__ : SF := (sC (sE' (eCa F_check_marks (aC (eV 1) aN)))
  (sC (sFs (eV 0) 0 (eV 1))
  (sC (sFs (eV 0) 1 (eBi tupleB (aC (eCo [2] (.nm 2) (iS (eCa F_rows_by (aC (eV 1) aN))) cY (eC (.int 1))) aN)))
  (sC (sFs (eV 0) 2 (eT aN))
  (sC (sFs (eV 0) 3 (eMl aN))
  sN)))))
def F_Tally___init__ : CF := defC 2 1 B_Tally___init__
theorem p_Tally___init__ (m : Mo P w K mg base nm) {f : Addr} {fd : FuncData} (h_check_marks : Df false P w K mg base nm "check_marks" 4 1 F_check_marks) (h_rows_by : Df false P w K mg base nm "rows_by" 1 1 F_rows_by) (F : FnQ K "__init__" "Tally.__init__" (mem (top 66) 0) f fd) : FnG false P w K mg base 5 f fd ["self", "marks"] (spD nm K 2 F_Tally___init__) :=
  (def_of (N := ["self", "marks", "row"]) (ps := ["self", "marks"]) (m := 1) (b := B_Tally___init__) F ⟨rfl, rfl, rfl, by decide +kernel, rfl, by decide +kernel, by decide +kernel⟩ rfl (by decide +kernel) fun cdv A outer s H E cc =>
    (wsC (wsE (wCa cc h_check_marks (wAC wVar wAN)))
    (wsC (wsFs (m.fl 0 (by decide)) wVar wVar m.f0)
    (wsC (wsFs (m.fl 1 (by decide)) wVar (wBt b_tuple m.n_tuple rfl (wAC (wCo ([("row", 2)]) cc (wiS (wCa cc h_rows_by (wAC wVar wAN))) (fun s H C cl fp cc' => ⟨(wgN cc'), wcY, wInt⟩) tg_name) wAN)) m.f1)
    (wsC (wsFs (m.fl 2 (by decide)) wVar (wT wAN) m.f2)
    (wsC (wsFs (m.fl 3 (by decide)) wVar (wMl wAN) m.f3)
    wsN))))))
theorem q_Tally___init__ (m : Mo P w K mg base nm) {f : Addr} {fd : FuncData} (h_check_marks : Df false P w K mg base nm "check_marks" 4 1 F_check_marks) (h_rows_by : Df false P w K mg base nm "rows_by" 1 1 F_rows_by) (F : FnQ K "__init__" "Tally.__init__" (mem (top 66) 0) f fd) (hm : Meth K (nm.cls 0) "__init__" f) : Dm false P w K mg base nm 0 "__init__" 5 2 F_Tally___init__ :=
  dm_mk F hm (F.bindsN fun _ _ _ _ _ _ us hl => match us, hl with | [_, _], _ => rfl) (p_Tally___init__ m h_check_marks h_rows_by F)

def B_is_string : SF := (sC (sR (eIs (eV 0) .str))
  sN)
def F_is_string : CF := defC 1 0 B_is_string
theorem p_is_string (m : Mo P w K mg base nm) {f : Addr} {fd : FuncData} (F : FnQ K "is_string" "is_string" (top 13) f fd) : FnG false P w K mg base 1 f fd ["value"] (spD nm K 1 F_is_string) :=
  (def_of (N := ["value"]) (ps := ["value"]) (m := 0) (b := B_is_string) F ⟨rfl, rfl, rfl, by decide +kernel, rfl, by decide +kernel, by decide +kernel⟩ rfl (by decide +kernel) fun cdv A outer s H E cc =>
    (wsC (wsR (wIsB wVar m.n_str rfl m.y_str m.n_isinstance))
    wsN))
theorem q_is_string (m : Mo P w K mg base nm) {f : Addr} {fd : FuncData} (F : FnQ K "is_string" "is_string" (top 13) f fd) (hm : mg "is_string" = some (.ref f)) : Df false P w K mg base nm "is_string" 1 1 F_is_string :=
  df_mkA F hm (F.bindsN fun _ _ _ _ _ _ us hl => match us, hl with | [_], _ => rfl) (p_is_string m  F)

def B_has_form : SF := (sC (sI (tOr (tN (tE1 (eIs (eV 0) .tuple))) (tOr (tQ .eq (eBi lenB (aC (eV 0) aN)) (eC (.int 0))) (tN (tE1 (eCa F_is_string (aC (eX (eV 0) (eC (.int 0))) aN)))))) (sC (sR (eC (.bl false)))
  sN) sN)
  (sC (sR (eAn (eIK tb_SIZES (eX (eV 0) (eC (.int 0)))) (eQ .eq (eBi lenB (aC (eV 0) aN)) (eGK tb_SIZES (eX (eV 0) (eC (.int 0)))))))
  sN))
def F_has_form : CF := defC 1 0 B_has_form
theorem p_has_form (m : Mo P w K mg base nm) {f : Addr} {fd : FuncData} (h_is_string : Df false P w K mg base nm "is_string" 1 1 F_is_string) (F : FnQ K "has_form" "has_form" (top 62) f fd) : FnG false P w K mg base 2 f fd ["value"] (spD nm K 1 F_has_form) :=
  (def_of (N := ["value"]) (ps := ["value"]) (m := 0) (b := B_has_form) F ⟨rfl, rfl, rfl, by decide +kernel, rfl, by decide +kernel, by decide +kernel⟩ rfl (by decide +kernel) fun cdv A outer s H E cc =>
    (wsC (wsI (wW (wTO (wTN (wT1 (wIsB wVar m.n_tuple rfl m.y_tuple m.n_isinstance))) (wTO (wTQ (o := .eq) cc (wBi b_len m.n_len rfl (wAC wVar wAN)) wInt) (wO1 (wTN (wT1 (wCa cc h_is_string (wAC (wX cc wVar wInt) wAN)))))))) (wsC (wsR wBl)
    wsN) wsN)
    (wsC (wsR (wAn (wIKe m.t_SIZES (wX cc wVar wInt)) (wE1 (wQ (o := .eq) cc (wBi b_len m.n_len rfl (wAC wVar wAN)) (wGKe m.t_SIZES (wX cc wVar wInt))))))
    wsN)))
theorem q_has_form (m : Mo P w K mg base nm) {f : Addr} {fd : FuncData} (h_is_string : Df false P w K mg base nm "is_string" 1 1 F_is_string) (F : FnQ K "has_form" "has_form" (top 62) f fd) (hm : mg "has_form" = some (.ref f)) : Df false P w K mg base nm "has_form" 2 1 F_has_form :=
  df_mkA F hm (F.bindsN fun _ _ _ _ _ _ us hl => match us, hl with | [_], _ => rfl) (p_has_form m h_is_string F)

def B_is_tuple_of : SF := (sC (sR (eAn (eIs (eV 0) .tuple) (eQ .eq (eBi lenB (aC (eV 0) aN)) (eV 1))))
  sN)
def F_is_tuple_of : CF := defC 2 0 B_is_tuple_of
theorem p_is_tuple_of (m : Mo P w K mg base nm) {f : Addr} {fd : FuncData} (F : FnQ K "is_tuple_of" "is_tuple_of" (top 15) f fd) : FnG false P w K mg base 1 f fd ["value", "many"] (spD nm K 2 F_is_tuple_of) :=
  (def_of (N := ["value", "many"]) (ps := ["value", "many"]) (m := 0) (b := B_is_tuple_of) F ⟨rfl, rfl, rfl, by decide +kernel, rfl, by decide +kernel, by decide +kernel⟩ rfl (by decide +kernel) fun cdv A outer s H E cc =>
    (wsC (wsR (wAn (wIsB wVar m.n_tuple rfl m.y_tuple m.n_isinstance) (wE1 (wQ (o := .eq) cc (wBi b_len m.n_len rfl (wAC wVar wAN)) wVar))))
    wsN))
theorem q_is_tuple_of (m : Mo P w K mg base nm) {f : Addr} {fd : FuncData} (F : FnQ K "is_tuple_of" "is_tuple_of" (top 15) f fd) (hm : mg "is_tuple_of" = some (.ref f)) : Df false P w K mg base nm "is_tuple_of" 1 2 F_is_tuple_of :=
  df_mkA F hm (F.bindsN fun _ _ _ _ _ _ us hl => match us, hl with | [_, _], _ => rfl) (p_is_tuple_of m  F)

def B_is_row : SF := (sC (sR (eAn (eCa F_is_tuple_of (aC (eV 1) (aC (eV 0) aN))) (eBi allB (aC (eCo [2] (.nm 2) (iS (eV 1)) cY (eCa F_is_between (aC (eV 2) (aC (eC (.int 0)) (aC (eC (.int 1)) aN))))) aN))))
  sN)
def F_is_row : CF := defC 2 1 B_is_row
theorem p_is_row (m : Mo P w K mg base nm) {f : Addr} {fd : FuncData} (h_is_between : Df false P w K mg base nm "is_between" 2 3 F_is_between) (h_is_tuple_of : Df false P w K mg base nm "is_tuple_of" 1 2 F_is_tuple_of) (F : FnQ K "is_row" "is_row" (top 29) f fd) : FnG false P w K mg base 3 f fd ["marks", "value"] (spD nm K 2 F_is_row) :=
  (def_of (N := ["marks", "value", "own"]) (ps := ["marks", "value"]) (m := 1) (b := B_is_row) F ⟨rfl, rfl, rfl, by decide +kernel, rfl, by decide +kernel, by decide +kernel⟩ rfl (by decide +kernel) fun cdv A outer s H E cc =>
    (wsC (wsR (wAn (wCa cc h_is_tuple_of (wAC wVar (wAC wVar wAN))) (wE1 (wBi (b_all rfl) m.n_all rfl (wAC (wCo ([("own", 2)]) cc (wiS wVar) (fun s H C cl fp cc' => ⟨(wgN cc'), wcY, (wCa cc' h_is_between (wAC wVar (wAC wInt (wAC wInt wAN))))⟩) tg_name) wAN)))))
    wsN))
theorem q_is_row (m : Mo P w K mg base nm) {f : Addr} {fd : FuncData} (h_is_between : Df false P w K mg base nm "is_between" 2 3 F_is_between) (h_is_tuple_of : Df false P w K mg base nm "is_tuple_of" 1 2 F_is_tuple_of) (F : FnQ K "is_row" "is_row" (top 29) f fd) (hm : mg "is_row" = some (.ref f)) : Df false P w K mg base nm "is_row" 3 2 F_is_row :=
  df_mkA F hm (F.bindsN fun _ _ _ _ _ _ us hl => match us, hl with | [_, _], _ => rfl) (p_is_row m h_is_between h_is_tuple_of F)

def B_check_deed : SF := (sC (sI (tN (tE1 (eCa F_has_form (aC (eV 1) aN)))) (sC (sRa 4 6 (eC (.int 0)))
  sN) sN)
  (sC (sI (tN (tE1 (eCa F_is_row (aC (eV 0) (aC (eX (eV 1) (eC (.int 1))) aN))))) (sC (sRa 4 6 (eC (.int 1)))
  sN) sN)
  sN))
def F_check_deed : CF := defC 2 0 B_check_deed
theorem p_check_deed (m : Mo P w K mg base nm) {f : Addr} {fd : FuncData} (h_has_form : Df false P w K mg base nm "has_form" 2 1 F_has_form) (h_InvalidDeed : Ec P w K mg base nm "InvalidDeed" 4 6 1) (h_is_row : Df false P w K mg base nm "is_row" 3 2 F_is_row) (F : FnQ K "check_deed" "check_deed" (top 63) f fd) : FnG false P w K mg base 4 f fd ["marks", "value"] (spD nm K 2 F_check_deed) :=
  (def_of (N := ["marks", "value"]) (ps := ["marks", "value"]) (m := 0) (b := B_check_deed) F ⟨rfl, rfl, rfl, by decide +kernel, rfl, by decide +kernel, by decide +kernel⟩ rfl (by decide +kernel) fun cdv A outer s H E cc =>
    (wsC (wsI (wTN (wT1 (wCa cc h_has_form (wAC wVar wAN)))) (wsC (wsRa cc h_InvalidDeed wInt)
    wsN) wsN)
    (wsC (wsI (wTN (wT1 (wCa cc h_is_row (wAC wVar (wAC (wX cc wVar wInt) wAN))))) (wsC (wsRa cc h_InvalidDeed wInt)
    wsN) wsN)
    wsN)))
theorem q_check_deed (m : Mo P w K mg base nm) {f : Addr} {fd : FuncData} (h_has_form : Df false P w K mg base nm "has_form" 2 1 F_has_form) (h_InvalidDeed : Ec P w K mg base nm "InvalidDeed" 4 6 1) (h_is_row : Df false P w K mg base nm "is_row" 3 2 F_is_row) (F : FnQ K "check_deed" "check_deed" (top 63) f fd) (hm : mg "check_deed" = some (.ref f)) : Df false P w K mg base nm "check_deed" 4 2 F_check_deed :=
  df_mkA F hm (F.bindsN fun _ _ _ _ _ _ us hl => match us, hl with | [_, _], _ => rfl) (p_check_deed m h_has_form h_InvalidDeed h_is_row F)

def B_index_of : SF := (sC (sA 1 (eC (.int 0)))
  (sC (sFo (.nm 2) (iS (eV 0)) (sC (sA 1 (eB .add (eB .mul (eC (.int 2)) (eV 1)) (eV 2)))
  sN))
  (sC (sR (eV 1))
  sN)))
def F_index_of : CF := defC 1 2 B_index_of
theorem p_index_of (m : Mo P w K mg base nm) {f : Addr} {fd : FuncData} (F : FnQ K "index_of" "index_of" (top 31) f fd) : FnG false P w K mg base 1 f fd ["row"] (spD nm K 1 F_index_of) :=
  (def_of (N := ["row", "found", "own"]) (ps := ["row"]) (m := 2) (b := B_index_of) F ⟨rfl, rfl, rfl, by decide +kernel, rfl, by decide +kernel, by decide +kernel⟩ rfl (by decide +kernel) fun cdv A outer s H E cc =>
    (wsC (wsA (wgN cc) wInt)
    (wsC (wsF cc (passes_of rfl) tg_name (wgN cc) (wiS wVar) (wsC (wsA (wgN cc) (wB (o := .add) (wB (o := .mul) wInt wVar) wVar))
    wsN))
    (wsC (wsR wVar)
    wsN))))
theorem q_index_of (m : Mo P w K mg base nm) {f : Addr} {fd : FuncData} (F : FnQ K "index_of" "index_of" (top 31) f fd) (hm : mg "index_of" = some (.ref f)) : Df false P w K mg base nm "index_of" 1 1 F_index_of :=
  df_mkA F hm (F.bindsN fun _ _ _ _ _ _ us hl => match us, hl with | [_], _ => rfl) (p_index_of m  F)

def B_number_at : SF := (sC (sR (eX (eV 0) (eCa F_index_of (aC (eV 1) aN))))
  sN)
def F_number_at : CF := defC 2 0 B_number_at
theorem p_number_at (m : Mo P w K mg base nm) {f : Addr} {fd : FuncData} (h_index_of : Df false P w K mg base nm "index_of" 1 1 F_index_of) (F : FnQ K "number_at" "number_at" (top 40) f fd) : FnG false P w K mg base 2 f fd ["table", "row"] (spD nm K 2 F_number_at) :=
  (def_of (N := ["table", "row"]) (ps := ["table", "row"]) (m := 0) (b := B_number_at) F ⟨rfl, rfl, rfl, by decide +kernel, rfl, by decide +kernel, by decide +kernel⟩ rfl (by decide +kernel) fun cdv A outer s H E cc =>
    (wsC (wsR (wX cc wVar (wCa cc h_index_of (wAC wVar wAN))))
    wsN))
theorem q_number_at (m : Mo P w K mg base nm) {f : Addr} {fd : FuncData} (h_index_of : Df false P w K mg base nm "index_of" 1 1 F_index_of) (F : FnQ K "number_at" "number_at" (top 40) f fd) (hm : mg "number_at" = some (.ref f)) : Df false P w K mg base nm "number_at" 2 2 F_number_at :=
  df_mkA F hm (F.bindsN fun _ _ _ _ _ _ us hl => match us, hl with | [_, _], _ => rfl) (p_number_at m h_index_of F)

def B_total_by : SF := (sC (sR (eBi sumB (aC (eV 0) aN)))
  sN)
def F_total_by : CF := defC 1 0 B_total_by
theorem p_total_by (m : Mo P w K mg base nm) {f : Addr} {fd : FuncData} (F : FnQ K "total_by" "total_by" (top 39) f fd) : FnG false P w K mg base 1 f fd ["table"] (spD nm K 1 F_total_by) :=
  (def_of (N := ["table"]) (ps := ["table"]) (m := 0) (b := B_total_by) F ⟨rfl, rfl, rfl, by decide +kernel, rfl, by decide +kernel, by decide +kernel⟩ rfl (by decide +kernel) fun cdv A outer s H E cc =>
    (wsC (wsR (wBi (b_sum rfl) m.n_sum rfl (wAC wVar wAN)))
    wsN))
theorem q_total_by (m : Mo P w K mg base nm) {f : Addr} {fd : FuncData} (F : FnQ K "total_by" "total_by" (top 39) f fd) (hm : mg "total_by" = some (.ref f)) : Df false P w K mg base nm "total_by" 1 1 F_total_by :=
  df_mkA F hm (F.bindsN fun _ _ _ _ _ _ us hl => match us, hl with | [_], _ => rfl) (p_total_by m  F)

def B_lots_by : SF := (sC (sA 1 (eL (aC (eT aN) aN)))
  (sC (sFo (.nm 2) (iS (eCa F_rows_by (aC (eV 0) aN))) (sC (sA 1 (eB .add (eV 1) (eCo [3] (.nm 3) (iS (eV 1)) cY (eT (aS (eV 3) (aC (eV 2) aN))))))
  sN))
  (sC (sR (eBi sortB (aC (eV 1) aN)))
  sN)))
def F_lots_by : CF := defC 1 3 B_lots_by
theorem p_lots_by (m : Mo P w K mg base nm) {f : Addr} {fd : FuncData} (h_rows_by : Df false P w K mg base nm "rows_by" 1 1 F_rows_by) (F : FnQ K "lots_by" "lots_by" (top 35) f fd) : FnG false P w K mg base 2 f fd ["marks"] (spD nm K 1 F_lots_by) :=
  (def_of (N := ["marks", "found", "row", "lot"]) (ps := ["marks"]) (m := 3) (b := B_lots_by) F ⟨rfl, rfl, rfl, by decide +kernel, rfl, by decide +kernel, by decide +kernel⟩ rfl (by decide +kernel) fun cdv A outer s H E cc =>
    (wsC (wsA (wgN cc) (wL (wAC (wT wAN) wAN)))
    (wsC (wsF cc (passes_of rfl) tg_name (wgN cc) (wiS (wCa cc h_rows_by (wAC wVar wAN))) (wsC (wsA (wgN cc) (wB (o := .add) wVar (wCo ([("lot", 3)]) cc (wiS wVar) (fun s H C cl fp cc' => ⟨(wgN cc'), wcY, (wT (wAS wVar (wAC wVar wAN)))⟩) tg_name)))
    wsN))
    (wsC (wsR (wBi (b_sorted cc.gx.hu) m.n_sorted rfl (wAC wVar wAN)))
    wsN))))
theorem q_lots_by (m : Mo P w K mg base nm) {f : Addr} {fd : FuncData} (h_rows_by : Df false P w K mg base nm "rows_by" 1 1 F_rows_by) (F : FnQ K "lots_by" "lots_by" (top 35) f fd) (hm : mg "lots_by" = some (.ref f)) : Df false P w K mg base nm "lots_by" 2 1 F_lots_by :=
  df_mkA F hm (F.bindsN fun _ _ _ _ _ _ us hl => match us, hl with | [_], _ => rfl) (p_lots_by m h_rows_by F)

def B_with_changed : SF := (sC (sR (eT (aS (eS (eV 0) oN (oS (eV 1))) (aC (eB .sub (eC (.int 1)) (eX (eV 0) (eV 1))) (aS (eS (eV 0) (oS (eB .add (eV 1) (eC (.int 1)))) oN) aN)))))
  sN)
def F_with_changed : CF := defC 2 0 B_with_changed
theorem p_with_changed (m : Mo P w K mg base nm) {f : Addr} {fd : FuncData} (F : FnQ K "with_changed" "with_changed" (top 34) f fd) : FnG false P w K mg base 1 f fd ["row", "mark"] (spD nm K 2 F_with_changed) :=
  (def_of (N := ["row", "mark"]) (ps := ["row", "mark"]) (m := 0) (b := B_with_changed) F ⟨rfl, rfl, rfl, by decide +kernel, rfl, by decide +kernel, by decide +kernel⟩ rfl (by decide +kernel) fun cdv A outer s H E cc =>
    (wsC (wsR (wT (wAS (wS wVar wON (wOS wVar)) (wAC (wB (o := .sub) wInt (wX cc wVar wVar)) (wAS (wS wVar (wOS (wB (o := .add) wVar wInt)) wON) wAN)))))
    wsN))
theorem q_with_changed (m : Mo P w K mg base nm) {f : Addr} {fd : FuncData} (F : FnQ K "with_changed" "with_changed" (top 34) f fd) (hm : mg "with_changed" = some (.ref f)) : Df false P w K mg base nm "with_changed" 1 2 F_with_changed :=
  df_mkA F hm (F.bindsN fun _ _ _ _ _ _ us hl => match us, hl with | [_, _], _ => rfl) (p_with_changed m  F)

def B_is_rising_by : SF := (sC (sFo (.nm 2) (iS (eV 1)) (sC (sFo (.nm 3) (iR1 (aC (eV 0) aN)) (sC (sI (tAn (tQ .eq (eX (eV 2) (eV 3)) (eC (.int 0))) (tQ .nin (eCa F_with_changed (aC (eV 2) (aC (eV 3) aN))) (eV 1))) (sC (sR (eC (.bl false)))
  sN) sN)
  sN))
  sN))
  (sC (sR (eC (.bl true)))
  sN))
def F_is_rising_by : CF := defC 2 2 B_is_rising_by
theorem p_is_rising_by (m : Mo P w K mg base nm) {f : Addr} {fd : FuncData} (h_with_changed : Df false P w K mg base nm "with_changed" 1 2 F_with_changed) (F : FnQ K "is_rising_by" "is_rising_by" (top 36) f fd) : FnG false P w K mg base 2 f fd ["marks", "lot"] (spD nm K 2 F_is_rising_by) :=
  (def_of (N := ["marks", "lot", "row", "mark"]) (ps := ["marks", "lot"]) (m := 2) (b := B_is_rising_by) F ⟨rfl, rfl, rfl, by decide +kernel, rfl, by decide +kernel, by decide +kernel⟩ rfl (by decide +kernel) fun cdv A outer s H E cc =>
    (wsC (wsF cc (passes_of rfl) tg_name (wgN cc) (wiS wVar) (wsC (wsF cc (passes_of rfl) tg_name (wgN cc) (wiR1 m.n_range (wAC wVar wAN)) (wsC (wsI (wW (wTA (wTQ (o := .eq) cc (wX cc wVar wVar) wInt) (wA1 (wTQ (o := .nin) cc (wCa cc h_with_changed (wAC wVar (wAC wVar wAN))) wVar)))) (wsC (wsR wBl)
    wsN) wsN)
    wsN))
    wsN))
    (wsC (wsR wBl)
    wsN)))
theorem q_is_rising_by (m : Mo P w K mg base nm) {f : Addr} {fd : FuncData} (h_with_changed : Df false P w K mg base nm "with_changed" 1 2 F_with_changed) (F : FnQ K "is_rising_by" "is_rising_by" (top 36) f fd) (hm : mg "is_rising_by" = some (.ref f)) : Df false P w K mg base nm "is_rising_by" 2 2 F_is_rising_by :=
  df_mkA F hm (F.bindsN fun _ _ _ _ _ _ us hl => match us, hl with | [_, _], _ => rfl) (p_is_rising_by m h_with_changed F)

def B_rising_by : SF := (sC (sR (eCo [1] (.nm 1) (iS (eCa F_lots_by (aC (eV 0) aN))) (tE1 (eCa F_is_rising_by (aC (eV 0) (aC (eV 1) aN)))) (eV 1)))
  sN)
def F_rising_by : CF := defC 1 1 B_rising_by
theorem p_rising_by (m : Mo P w K mg base nm) {f : Addr} {fd : FuncData} (h_lots_by : Df false P w K mg base nm "lots_by" 2 1 F_lots_by) (h_is_rising_by : Df false P w K mg base nm "is_rising_by" 2 2 F_is_rising_by) (F : FnQ K "rising_by" "rising_by" (top 37) f fd) : FnG false P w K mg base 3 f fd ["marks"] (spD nm K 1 F_rising_by) :=
  (def_of (N := ["marks", "lot"]) (ps := ["marks"]) (m := 1) (b := B_rising_by) F ⟨rfl, rfl, rfl, by decide +kernel, rfl, by decide +kernel, by decide +kernel⟩ rfl (by decide +kernel) fun cdv A outer s H E cc =>
    (wsC (wsR (wCo ([("lot", 1)]) cc (wiS (wCa cc h_lots_by (wAC wVar wAN))) (fun s H C cl fp cc' => ⟨(wgN cc'), (wc1 (wT1 (wCa cc' h_is_rising_by (wAC wVar (wAC wVar wAN))))), wVar⟩) tg_name))
    wsN))
theorem q_rising_by (m : Mo P w K mg base nm) {f : Addr} {fd : FuncData} (h_lots_by : Df false P w K mg base nm "lots_by" 2 1 F_lots_by) (h_is_rising_by : Df false P w K mg base nm "is_rising_by" 2 2 F_is_rising_by) (F : FnQ K "rising_by" "rising_by" (top 37) f fd) (hm : mg "rising_by" = some (.ref f)) : Df false P w K mg base nm "rising_by" 3 1 F_rising_by :=
  df_mkA F hm (F.bindsN fun _ _ _ _ _ _ us hl => match us, hl with | [_], _ => rfl) (p_rising_by m h_lots_by h_is_rising_by F)

def B_marks_of : SF := (sC (sR (eGI tb_LENGTHS (eBi lenB (aC (eV 0) aN))))
  sN)
def F_marks_of : CF := defC 1 0 B_marks_of
theorem p_marks_of (m : Mo P w K mg base nm) {f : Addr} {fd : FuncData} (F : FnQ K "marks_of" "marks_of" (top 38) f fd) : FnG false P w K mg base 1 f fd ["table"] (spD nm K 1 F_marks_of) :=
  (def_of (N := ["table"]) (ps := ["table"]) (m := 0) (b := B_marks_of) F ⟨rfl, rfl, rfl, by decide +kernel, rfl, by decide +kernel, by decide +kernel⟩ rfl (by decide +kernel) fun cdv A outer s H E cc =>
    (wsC (wsR (wGIe m.t_LENGTHS (wBi b_len m.n_len rfl (wAC wVar wAN))))
    wsN))
theorem q_marks_of (m : Mo P w K mg base nm) {f : Addr} {fd : FuncData} (F : FnQ K "marks_of" "marks_of" (top 38) f fd) (hm : mg "marks_of" = some (.ref f)) : Df false P w K mg base nm "marks_of" 1 1 F_marks_of :=
  df_mkA F hm (F.bindsN fun _ _ _ _ _ _ us hl => match us, hl with | [_], _ => rfl) (p_marks_of m  F)

def B_bar_by : SF := (sC (sG (gT [(gN 1), (gN 2)]) (eT (aC (eCa F_rising_by (aC (eCa F_marks_of (aC (eV 0) aN)) aN)) (aC (eCa F_total_by (aC (eV 0) aN)) aN))))
  (sC (sA 3 (eBi dictB (aC (eZ (aC (eCa F_rows_by (aC (eCa F_marks_of (aC (eV 0) aN)) aN)) (aC (eV 0) aN))) aN)))
  (sC (sA 4 (eCo [6] (.nm 6) (iS (eV 1)) cY (eBi sumB (aC (eCo [5] (.nm 5) (iS (eV 6)) cY (eX (eV 3) (eV 5))) aN))))
  (sC (sFo (.tp [7, 6]) (iE (aC (eV 1) aN)) (sC (sFo (.nm 8) (iR2 (aC (eV 7) (aC (eBi lenB (aC (eV 1) aN)) aN))) (sC (sI (tQ .lt (eB .mul (eV 2) (eBi sumB (aC (eCo [5] (.nm 5) (iS (eV 6)) (tQ .inn (eV 5) (eX (eV 1) (eV 8))) (eX (eV 3) (eV 5))) aN))) (eB .mul (eX (eV 4) (eV 7)) (eX (eV 4) (eV 8)))) (sC (sR (eT (aC (eV 6) (aC (eX (eV 1) (eV 8)) aN))))
  sN) sN)
  sN))
  sN))
  (sC (sR (eC .non))
  sN)))))
def F_bar_by : CF := defC 1 8 B_bar_by
theorem p_bar_by (m : Mo P w K mg base nm) {f : Addr} {fd : FuncData} (h_total_by : Df false P w K mg base nm "total_by" 1 1 F_total_by) (h_marks_of : Df false P w K mg base nm "marks_of" 1 1 F_marks_of) (h_rising_by : Df false P w K mg base nm "rising_by" 3 1 F_rising_by) (h_rows_by : Df false P w K mg base nm "rows_by" 1 1 F_rows_by) (F : FnQ K "bar_by" "bar_by" (top 43) f fd) : FnG false P w K mg base 4 f fd ["table"] (spD nm K 1 F_bar_by) :=
  (def_of (N := ["table", "lots", "whole", "told", "sums", "row", "lot", "at", "to"]) (ps := ["table"]) (m := 8) (b := B_bar_by) F ⟨rfl, rfl, rfl, by decide +kernel, rfl, by decide +kernel, by decide +kernel⟩ rfl (by decide +kernel) fun cdv A outer s H E cc =>
    (wsC (wsG (wT (wAC (wCa cc h_rising_by (wAC (wCa cc h_marks_of (wAC wVar wAN)) wAN)) (wAC (wCa cc h_total_by (wAC wVar wAN)) wAN))) (wgT cc (wgLC (wgs (wgN cc)) (wgLC (wgs (wgN cc)) wgLN))))
    (wsC (wsA (wgN cc) (wBt (b_dict rfl cc.gx.hu) m.n_dict rfl (wAC (wZ cc m.n_list m.n_zip (wAC (wCa cc h_rows_by (wAC (wCa cc h_marks_of (wAC wVar wAN)) wAN)) (wAC wVar wAN))) wAN)))
    (wsC (wsCo ([("lot", 6)]) cc (wiS wVar) (fun s H C cl fp cc' => ⟨(wgN cc'), wcY, (wBi (b_sum rfl) m.n_sum rfl (wAC (wCo ([("row", 5)]) cc' (wiS wVar) (fun s H C cl fp cc'' => ⟨(wgN cc''), wcY, (wX cc'' wVar wVar)⟩) tg_name) wAN))⟩) tg_name)
    (wsC (wsF cc (passes_of rfl) tg_names (wgT2 cc) (wiE m.n_enumerate (wAC wVar wAN)) (wsC (wsF cc (passes_of rfl) tg_name (wgN cc) (wiR2 m.n_range (wAC wVar (wAC (wBi b_len m.n_len rfl (wAC wVar wAN)) wAN))) (wsC (wsI (wTQ (o := .lt) cc (wB (o := .mul) wVar (wBi (b_sum rfl) m.n_sum rfl (wAC (wCo ([("row", 5)]) cc (wiS wVar) (fun s H C cl fp cc' => ⟨(wgN cc'), (wc1 (wTQ (o := .inn) cc' wVar (wX cc' wVar wVar))), (wX cc' wVar wVar)⟩) tg_name) wAN))) (wB (o := .mul) (wX cc wVar wVar) (wX cc wVar wVar))) (wsC (wsR (wT (wAC wVar (wAC (wX cc wVar wVar) wAN))))
    wsN) wsN)
    wsN))
    wsN))
    (wsC (wsR wNon)
    wsN))))))
theorem q_bar_by (m : Mo P w K mg base nm) {f : Addr} {fd : FuncData} (h_total_by : Df false P w K mg base nm "total_by" 1 1 F_total_by) (h_marks_of : Df false P w K mg base nm "marks_of" 1 1 F_marks_of) (h_rising_by : Df false P w K mg base nm "rising_by" 3 1 F_rising_by) (h_rows_by : Df false P w K mg base nm "rows_by" 1 1 F_rows_by) (F : FnQ K "bar_by" "bar_by" (top 43) f fd) (hm : mg "bar_by" = some (.ref f)) : Df false P w K mg base nm "bar_by" 4 1 F_bar_by :=
  df_mkA F hm (F.bindsN fun _ _ _ _ _ _ us hl => match us, hl with | [_], _ => rfl) (p_bar_by m h_total_by h_marks_of h_rising_by h_rows_by F)

def B_helps_by : SF := (sC (sR (eQ .is (eCa F_bar_by (aC (eV 0) aN)) (eC .non)))
  sN)
def F_helps_by : CF := defC 1 0 B_helps_by
theorem p_helps_by (m : Mo P w K mg base nm) {f : Addr} {fd : FuncData} (h_bar_by : Df false P w K mg base nm "bar_by" 4 1 F_bar_by) (F : FnQ K "helps_by" "helps_by" (top 44) f fd) : FnG false P w K mg base 5 f fd ["table"] (spD nm K 1 F_helps_by) :=
  (def_of (N := ["table"]) (ps := ["table"]) (m := 0) (b := B_helps_by) F ⟨rfl, rfl, rfl, by decide +kernel, rfl, by decide +kernel, by decide +kernel⟩ rfl (by decide +kernel) fun cdv A outer s H E cc =>
    (wsC (wsR (wQ (o := .is) cc (wCa cc h_bar_by (wAC wVar wAN)) wNon))
    wsN))
theorem q_helps_by (m : Mo P w K mg base nm) {f : Addr} {fd : FuncData} (h_bar_by : Df false P w K mg base nm "bar_by" 4 1 F_bar_by) (F : FnQ K "helps_by" "helps_by" (top 44) f fd) (hm : mg "helps_by" = some (.ref f)) : Df false P w K mg base nm "helps_by" 5 1 F_helps_by :=
  df_mkA F hm (F.bindsN fun _ _ _ _ _ _ us hl => match us, hl with | [_], _ => rfl) (p_helps_by m h_bar_by F)

def B_with_more : SF := (sC (sA 3 (eCa F_index_of (aC (eV 1) aN)))
  (sC (sR (eT (aS (eS (eV 0) oN (oS (eV 3))) (aC (eB .add (eX (eV 0) (eV 3)) (eV 2)) (aS (eS (eV 0) (oS (eB .add (eV 3) (eC (.int 1)))) oN) aN)))))
  sN))
def F_with_more : CF := defC 3 1 B_with_more
theorem p_with_more (m : Mo P w K mg base nm) {f : Addr} {fd : FuncData} (h_index_of : Df false P w K mg base nm "index_of" 1 1 F_index_of) (F : FnQ K "with_more" "with_more" (top 64) f fd) : FnG false P w K mg base 2 f fd ["table", "row", "more"] (spD nm K 3 F_with_more) :=
  (def_of (N := ["table", "row", "more", "at"]) (ps := ["table", "row", "more"]) (m := 1) (b := B_with_more) F ⟨rfl, rfl, rfl, by decide +kernel, rfl, by decide +kernel, by decide +kernel⟩ rfl (by decide +kernel) fun cdv A outer s H E cc =>
    (wsC (wsA (wgN cc) (wCa cc h_index_of (wAC wVar wAN)))
    (wsC (wsR (wT (wAS (wS wVar wON (wOS wVar)) (wAC (wB (o := .add) (wX cc wVar wVar) wVar) (wAS (wS wVar (wOS (wB (o := .add) wVar wInt)) wON) wAN)))))
    wsN)))
theorem q_with_more (m : Mo P w K mg base nm) {f : Addr} {fd : FuncData} (h_index_of : Df false P w K mg base nm "index_of" 1 1 F_index_of) (F : FnQ K "with_more" "with_more" (top 64) f fd) (hm : mg "with_more" = some (.ref f)) : Df false P w K mg base nm "with_more" 2 3 F_with_more :=
  df_mkA F hm (F.bindsN fun _ _ _ _ _ _ us hl => match us, hl with | [_, _, _], _ => rfl) (p_with_more m h_index_of F)

def B_reason_against : SF := (sC (sA 2 (eCa F_number_at (aC (eV 0) (aC (eX (eV 1) (eC (.int 1))) aN))))
  (sC (sI (tQ .eq (eX (eV 1) (eC (.int 0))) (eC (.str "count"))) (sC (sI (tQ .eq (eV 2) (eC (.int 99))) (sC (sR (eC (.str "full")))
  sN) sN)
  (sC (sR (eI (tE1 (eCa F_helps_by (aC (eCa F_with_more (aC (eV 0) (aC (eX (eV 1) (eC (.int 1))) (aC (eC (.int 1)) aN)))) aN))) (eC .non) (eC (.str "hinders"))))
  sN)) sN)
  (sC (sI (tQ .eq (eV 2) (eC (.int 0))) (sC (sR (eC (.str "none")))
  sN) sN)
  (sC (sI (tQ .eq (eCa F_total_by (aC (eV 0) aN)) (eC (.int 1))) (sC (sR (eC (.str "last")))
  sN) sN)
  (sC (sR (eI (tE1 (eCa F_helps_by (aC (eCa F_with_more (aC (eV 0) (aC (eX (eV 1) (eC (.int 1))) (aC (eNeg (eC (.int 1))) aN)))) aN))) (eC .non) (eC (.str "hinders"))))
  sN)))))
def F_reason_against : CF := defC 2 1 B_reason_against
theorem p_reason_against (m : Mo P w K mg base nm) {f : Addr} {fd : FuncData} (h_number_at : Df false P w K mg base nm "number_at" 2 2 F_number_at) (h_with_more : Df false P w K mg base nm "with_more" 2 3 F_with_more) (h_helps_by : Df false P w K mg base nm "helps_by" 5 1 F_helps_by) (h_total_by : Df false P w K mg base nm "total_by" 1 1 F_total_by) (F : FnQ K "reason_against" "reason_against" (top 65) f fd) : FnG false P w K mg base 6 f fd ["table", "deed"] (spD nm K 2 F_reason_against) :=
  (def_of (N := ["table", "deed", "number"]) (ps := ["table", "deed"]) (m := 1) (b := B_reason_against) F ⟨rfl, rfl, rfl, by decide +kernel, rfl, by decide +kernel, by decide +kernel⟩ rfl (by decide +kernel) fun cdv A outer s H E cc =>
    (wsC (wsA (wgN cc) (wCa cc h_number_at (wAC wVar (wAC (wX cc wVar wInt) wAN))))
    (wsC (wsI (wTQ (o := .eq) cc (wX cc wVar wInt) wStr) (wsC (wsI (wTQ (o := .eq) cc wVar (wGInt m.c_MOST_NUMBER)) (wsC (wsR (wGStr m.c_FULL))
    wsN) wsN)
    (wsC (wsR (wI (wT1 (wCa cc h_helps_by (wAC (wCa cc h_with_more (wAC wVar (wAC (wX cc wVar wInt) (wAC wInt wAN)))) wAN))) wNon (wGStr m.c_HINDERS)))
    wsN)) wsN)
    (wsC (wsI (wTQ (o := .eq) cc wVar wInt) (wsC (wsR (wGStr m.c_NONE_tallies))
    wsN) wsN)
    (wsC (wsI (wTQ (o := .eq) cc (wCa cc h_total_by (wAC wVar wAN)) wInt) (wsC (wsR (wGStr m.c_LAST))
    wsN) wsN)
    (wsC (wsR (wI (wT1 (wCa cc h_helps_by (wAC (wCa cc h_with_more (wAC wVar (wAC (wX cc wVar wInt) (wAC (wNeg wInt) wAN)))) wAN))) wNon (wGStr m.c_HINDERS)))
    wsN))))))
theorem q_reason_against (m : Mo P w K mg base nm) {f : Addr} {fd : FuncData} (h_number_at : Df false P w K mg base nm "number_at" 2 2 F_number_at) (h_with_more : Df false P w K mg base nm "with_more" 2 3 F_with_more) (h_helps_by : Df false P w K mg base nm "helps_by" 5 1 F_helps_by) (h_total_by : Df false P w K mg base nm "total_by" 1 1 F_total_by) (F : FnQ K "reason_against" "reason_against" (top 65) f fd) (hm : mg "reason_against" = some (.ref f)) : Df false P w K mg base nm "reason_against" 6 2 F_reason_against :=
  df_mkA F hm (F.bindsN fun _ _ _ _ _ _ us hl => match us, hl with | [_, _], _ => rfl) (p_reason_against m h_number_at h_with_more h_helps_by h_total_by F)

def B_Tally_do : SF := (sC (sE' (eCa F_check_deed (aC (eF (eV 0) 0) (aC (eV 1) aN))))
  (sC (sA 2 (eCa F_reason_against (aC (eF (eV 0) 1) (aC (eV 1) aN))))
  (sC (sI (tQ .isn (eV 2) (eC .non)) (sC (sRa 5 7 (eV 2))
  sN) sN)
  (sC (sMa (eF (eV 0) 3) (eF (eV 0) 1))
  (sC (sFs (eV 0) 1 (eCa F_with_more (aC (eF (eV 0) 1) (aC (eX (eV 1) (eC (.int 1))) (aC (eI (tQ .eq (eX (eV 1) (eC (.int 0))) (eC (.str "count"))) (eC (.int 1)) (eNeg (eC (.int 1)))) aN)))))
  (sC (sFs (eV 0) 2 (eB .add (eF (eV 0) 2) (eT (aC (eV 1) aN))))
  sN))))))
def F_Tally_do : CF := defC 2 1 B_Tally_do
theorem p_Tally_do (m : Mo P w K mg base nm) {f : Addr} {fd : FuncData} (h_check_deed : Df false P w K mg base nm "check_deed" 4 2 F_check_deed) (h_reason_against : Df false P w K mg base nm "reason_against" 6 2 F_reason_against) (h_Barred : Ec P w K mg base nm "Barred" 5 7 1) (h_with_more : Df false P w K mg base nm "with_more" 2 3 F_with_more) (F : FnQ K "do" "Tally.do" (mem (top 66) 1) f fd) : FnG false P w K mg base 7 f fd ["self", "deed"] (spD nm K 2 F_Tally_do) :=
  (def_of (N := ["self", "deed", "reason"]) (ps := ["self", "deed"]) (m := 1) (b := B_Tally_do) F ⟨rfl, rfl, rfl, by decide +kernel, rfl, by decide +kernel, by decide +kernel⟩ rfl (by decide +kernel) fun cdv A outer s H E cc =>
    (wsC (wsE (wCa cc h_check_deed (wAC (wF (m.fl 0 (by decide)) wVar m.f0) (wAC wVar wAN))))
    (wsC (wsA (wgN cc) (wCa cc h_reason_against (wAC (wF (m.fl 1 (by decide)) wVar m.f1) (wAC wVar wAN))))
    (wsC (wsI (wTQ (o := .isn) cc wVar wNon) (wsC (wsRa cc h_Barred wVar)
    wsN) wsN)
    (wsC (wsMa (wF (m.fl 3 (by decide)) wVar m.f3) (wF (m.fl 1 (by decide)) wVar m.f1))
    (wsC (wsFs (m.fl 1 (by decide)) wVar (wCa cc h_with_more (wAC (wF (m.fl 1 (by decide)) wVar m.f1) (wAC (wX cc wVar wInt) (wAC (wI (wTQ (o := .eq) cc (wX cc wVar wInt) wStr) wInt (wNeg wInt)) wAN)))) m.f1)
    (wsC (wsFs (m.fl 2 (by decide)) wVar (wB (o := .add) (wF (m.fl 2 (by decide)) wVar m.f2) (wT (wAC wVar wAN))) m.f2)
    wsN)))))))
theorem q_Tally_do (m : Mo P w K mg base nm) {f : Addr} {fd : FuncData} (h_check_deed : Df false P w K mg base nm "check_deed" 4 2 F_check_deed) (h_reason_against : Df false P w K mg base nm "reason_against" 6 2 F_reason_against) (h_Barred : Ec P w K mg base nm "Barred" 5 7 1) (h_with_more : Df false P w K mg base nm "with_more" 2 3 F_with_more) (F : FnQ K "do" "Tally.do" (mem (top 66) 1) f fd) (hm : Meth K (nm.cls 0) "do" f) : Dm false P w K mg base nm 0 "do" 7 2 F_Tally_do :=
  dm_mk F hm (F.bindsN fun _ _ _ _ _ _ us hl => match us, hl with | [_, _], _ => rfl) (p_Tally_do m h_check_deed h_reason_against h_Barred h_with_more F)

def B_copy_of : SF := (sC (sA 1 (eMk F_Tally___init__ 0 (aC (eF (eV 0) 0) aN)))
  (sC (sFo (.nm 2) (iS (eF (eV 0) 2)) (sC (sE' (eMc 0 F_Tally_do (eV 1) (aC (eV 2) aN)))
  sN))
  (sC (sR (eV 1))
  sN)))
def F_copy_of : CF := defC 1 2 B_copy_of
theorem p_copy_of (m : Mo P w K mg base nm) {f : Addr} {fd : FuncData} (h_Tally___init__ : Dm false P w K mg base nm 0 "__init__" 5 2 F_Tally___init__) (h_Tally_do : Dm false P w K mg base nm 0 "do" 7 2 F_Tally_do) (F : FnQ K "copy_of" "copy_of" (top 68) f fd) : FnG false P w K mg base 8 f fd ["tally"] (spD nm K 1 F_copy_of) :=
  (def_of (N := ["tally", "found", "deed"]) (ps := ["tally"]) (m := 2) (b := B_copy_of) F ⟨rfl, rfl, rfl, by decide +kernel, rfl, by decide +kernel, by decide +kernel⟩ rfl (by decide +kernel) fun cdv A outer s H E cc =>
    (wsC (wsA (wgN cc) (wMk cc h_Tally___init__ m.mk_Tally m.g_Tally (wAC (wF (m.fl 0 (by decide)) wVar m.f0) wAN)))
    (wsC (wsF cc (passes_of rfl) tg_name (wgN cc) (wiS (wF (m.fl 2 (by decide)) wVar m.f2)) (wsC (wsE (wMc cc h_Tally_do (m.cl 0) (m.nof _ (by decide) (by decide)) wVar (wAC wVar wAN)))
    wsN))
    (wsC (wsR wVar)
    wsN))))
theorem q_copy_of (m : Mo P w K mg base nm) {f : Addr} {fd : FuncData} (h_Tally___init__ : Dm false P w K mg base nm 0 "__init__" 5 2 F_Tally___init__) (h_Tally_do : Dm false P w K mg base nm 0 "do" 7 2 F_Tally_do) (F : FnQ K "copy_of" "copy_of" (top 68) f fd) (hm : mg "copy_of" = some (.ref f)) : Df false P w K mg base nm "copy_of" 8 1 F_copy_of :=
  df_mkA F hm (F.bindsN fun _ _ _ _ _ _ us hl => match us, hl with | [_], _ => rfl) (p_copy_of m h_Tally___init__ h_Tally_do F)

def B_Console___init__ : SF := (sC (sE' (eCa F_check_tally (aC (eV 1) aN)))
  (sC (sFs (eV 0) 4 (eCa F_copy_of (aC (eV 1) aN)))
  sN))
def F_Console___init__ : CF := defC 2 0 B_Console___init__
theorem p_Console___init__ (m : Mo P w K mg base nm) {f : Addr} {fd : FuncData} (h_check_tally : Df false P w K mg base nm "check_tally" 3 1 F_check_tally) (h_copy_of : Df false P w K mg base nm "copy_of" 8 1 F_copy_of) (F : FnQ K "__init__" "Console.__init__" (mem (top 81) 0) f fd) : FnG false P w K mg base 9 f fd ["self", "tally"] (spD nm K 2 F_Console___init__) :=
  (def_of (N := ["self", "tally"]) (ps := ["self", "tally"]) (m := 0) (b := B_Console___init__) F ⟨rfl, rfl, rfl, by decide +kernel, rfl, by decide +kernel, by decide +kernel⟩ rfl (by decide +kernel) fun cdv A outer s H E cc =>
    (wsC (wsE (wCa cc h_check_tally (wAC wVar wAN)))
    (wsC (wsFs (m.fl 4 (by decide)) wVar (wCa cc h_copy_of (wAC wVar wAN)) m.f4)
    wsN)))
theorem q_Console___init__ (m : Mo P w K mg base nm) {f : Addr} {fd : FuncData} (h_check_tally : Df false P w K mg base nm "check_tally" 3 1 F_check_tally) (h_copy_of : Df false P w K mg base nm "copy_of" 8 1 F_copy_of) (F : FnQ K "__init__" "Console.__init__" (mem (top 81) 0) f fd) (hm : Meth K (nm.cls 1) "__init__" f) : Dm false P w K mg base nm 1 "__init__" 9 2 F_Console___init__ :=
  dm_mk F hm (F.bindsN fun _ _ _ _ _ _ us hl => match us, hl with | [_, _], _ => rfl) (p_Console___init__ m h_check_tally h_copy_of F)

def B_words_of : SF := (sC (sA 1 (eMt .split splitB (eV 0) (aC (eC (.str " ")) aN)))
  (sC (sR (eI (tQ .inn (eC (.str "")) (eV 1)) (eC .non) (eV 1)))
  sN))
def F_words_of : CF := defC 1 1 B_words_of
theorem p_words_of (m : Mo P w K mg base nm) {f : Addr} {fd : FuncData} (F : FnQ K "words_of" "words_of" (top 16) f fd) : FnG false P w K mg base 1 f fd ["line"] (spD nm K 1 F_words_of) :=
  (def_of (N := ["line", "words"]) (ps := ["line"]) (m := 1) (b := B_words_of) F ⟨rfl, rfl, rfl, by decide +kernel, rfl, by decide +kernel, by decide +kernel⟩ rfl (by decide +kernel) fun cdv A outer s H E cc =>
    (wsC (wsA (wgN cc) (wSplit wVar (wAC wStr wAN)))
    (wsC (wsR (wI (wTQ (o := .inn) cc wStr wVar) wNon wVar))
    wsN)))
theorem q_words_of (m : Mo P w K mg base nm) {f : Addr} {fd : FuncData} (F : FnQ K "words_of" "words_of" (top 16) f fd) (hm : mg "words_of" = some (.ref f)) : Df false P w K mg base nm "words_of" 1 1 F_words_of :=
  df_mkA F hm (F.bindsN fun _ _ _ _ _ _ us hl => match us, hl with | [_], _ => rfl) (p_words_of m  F)

def B_Tally_undo : SF := (sC (sI (tEq0 (eF (eV 0) 3)) (sC (sRa0 6)
  sN) sN)
  (sC (sFs (eV 0) 1 (eMp (eF (eV 0) 3)))
  (sC (sFs (eV 0) 2 (eS (eF (eV 0) 2) oN (oS (eNeg (eC (.int 1))))))
  sN)))
def F_Tally_undo : CF := defC 1 0 B_Tally_undo
theorem p_Tally_undo (m : Mo P w K mg base nm) {f : Addr} {fd : FuncData} (h_NothingToUndo : Eo K mg nm "NothingToUndo" 6) (F : FnQ K "undo" "Tally.undo" (mem (top 66) 2) f fd) : FnG false P w K mg base 1 f fd ["self"] (spD nm K 1 F_Tally_undo) :=
  (def_of (N := ["self"]) (ps := ["self"]) (m := 0) (b := B_Tally_undo) F ⟨rfl, rfl, rfl, by decide +kernel, rfl, by decide +kernel, by decide +kernel⟩ rfl (by decide +kernel) fun cdv A outer s H E cc =>
    (wsC (wsI (wTEq0 cc (wF (m.fl 3 (by decide)) wVar m.f3)) (wsC (wsRa0 cc h_NothingToUndo)
    wsN) wsN)
    (wsC (wsFs (m.fl 1 (by decide)) wVar (wMp (wF (m.fl 3 (by decide)) wVar m.f3)) m.f1)
    (wsC (wsFs (m.fl 2 (by decide)) wVar (wS (wF (m.fl 2 (by decide)) wVar m.f2) wON (wOS (wNeg wInt))) m.f2)
    wsN))))
theorem q_Tally_undo (m : Mo P w K mg base nm) {f : Addr} {fd : FuncData} (h_NothingToUndo : Eo K mg nm "NothingToUndo" 6) (F : FnQ K "undo" "Tally.undo" (mem (top 66) 2) f fd) (hm : Meth K (nm.cls 0) "undo" f) : Dm false P w K mg base nm 0 "undo" 1 1 F_Tally_undo :=
  dm_mk F hm (F.bindsN fun _ _ _ _ _ _ us hl => match us, hl with | [_], _ => rfl) (p_Tally_undo m h_NothingToUndo F)

def B_said_of_undo : SF := (sC (sTryO 6 (sC (sE' (eMc0 0 F_Tally_undo (eV 0)))
  sN) (sC (sR (eC (.str "nothing")))
  sN))
  (sC (sR (eC (.str "done")))
  sN))
def F_said_of_undo : CF := defC 1 0 B_said_of_undo
theorem p_said_of_undo (m : Mo P w K mg base nm) {f : Addr} {fd : FuncData} (h_Tally_undo : Dm false P w K mg base nm 0 "undo" 1 1 F_Tally_undo) (h_NothingToUndo : Eo K mg nm "NothingToUndo" 6) (x_NothingToUndo : PySem.W.exmOne K (.ref (nm.exc 6)) (.ref (nm.exc 6)) = some true) (F : FnQ K "said_of_undo" "said_of_undo" (top 77) f fd) : FnG false P w K mg base 2 f fd ["tally"] (spD nm K 1 F_said_of_undo) :=
  (def_of (N := ["tally"]) (ps := ["tally"]) (m := 0) (b := B_said_of_undo) F ⟨rfl, rfl, rfl, by decide +kernel, rfl, by decide +kernel, by decide +kernel⟩ rfl (by decide +kernel) fun cdv A outer s H E cc =>
    (wsC (wsTryO cc h_NothingToUndo.hm x_NothingToUndo (fun W pn xe ccT => (wsC (wsE (wMc0 ccT h_Tally_undo (m.cl 0) (m.nof _ (by decide) (by decide)) wVar))
    wsN)) (fun a pn => (wsC (wsR (wGStr m.c_NOTHING))
    wsN)))
    (wsC (wsR (wGStr m.c_DONE))
    wsN)))
theorem q_said_of_undo (m : Mo P w K mg base nm) {f : Addr} {fd : FuncData} (h_Tally_undo : Dm false P w K mg base nm 0 "undo" 1 1 F_Tally_undo) (h_NothingToUndo : Eo K mg nm "NothingToUndo" 6) (x_NothingToUndo : PySem.W.exmOne K (.ref (nm.exc 6)) (.ref (nm.exc 6)) = some true) (F : FnQ K "said_of_undo" "said_of_undo" (top 77) f fd) (hm : mg "said_of_undo" = some (.ref f)) : Df false P w K mg base nm "said_of_undo" 2 1 F_said_of_undo :=
  df_mkA F hm (F.bindsN fun _ _ _ _ _ _ us hl => match us, hl with | [_], _ => rfl) (p_said_of_undo m h_Tally_undo h_NothingToUndo x_NothingToUndo F)

def F_Tally_is_even : CF := F_bad
theorem q_Tally_is_even (m : Mo P w K mg base nm) {f : Addr} {fd : FuncData} (F : FnQ K "is_even" "Tally.is_even" (mem (top 66) 4) f fd) (hm : Meth K (nm.cls 0) "is_even" f) : Dm false P w K mg base nm 0 "is_even" 1 1 F_Tally_is_even := dm_bad (ps := ["self"]) F hm (F.bindsN fun _ _ _ _ _ _ us hl => match us, hl with | [_], _ => rfl) rfl

def F_are_alone_by : CF := F_bad
theorem q_are_alone_by (m : Mo P w K mg base nm) {f : Addr} {fd : FuncData} (F : FnQ K "are_alone_by" "are_alone_by" (top 52) f fd) (hm : mg "are_alone_by" = some (.ref f)) : Df false P w K mg base nm "are_alone_by" 1 1 F_are_alone_by := df_bad (ps := ["table"]) F hm (F.bindsN fun _ _ _ _ _ _ us hl => match us, hl with | [_], _ => rfl) rfl

def F_Tally_may_come : CF := F_bad
theorem q_Tally_may_come (m : Mo P w K mg base nm) {f : Addr} {fd : FuncData} (F : FnQ K "may_come" "Tally.may_come" (mem (top 66) 3) f fd) (hm : Meth K (nm.cls 0) "may_come" f) : Dm false P w K mg base nm 0 "may_come" 1 1 F_Tally_may_come := dm_bad (ps := ["self"]) F hm (F.bindsN fun _ _ _ _ _ _ us hl => match us, hl with | [_], _ => rfl) rfl

def B_said_of_word : SF := (sC (sI (tQ .eq (eV 1) (eC (.str "undo"))) (sC (sR (eCa F_said_of_undo (aC (eV 0) aN)))
  sN) sN)
  (sC (sI (tQ .eq (eV 1) (eC (.str "total"))) (sC (sR (eBi strB (aC (eCa F_total_by (aC (eF (eV 0) 1) aN)) aN)))
  sN) sN)
  (sC (sI (tQ .eq (eV 1) (eC (.str "even"))) (sC (sR (eI (tE1 (eMc0 0 F_Tally_is_even (eV 0))) (eC (.str "yes")) (eC (.str "no"))))
  sN) sN)
  (sC (sI (tQ .eq (eV 1) (eC (.str "alone"))) (sC (sR (eI (tE1 (eCa F_are_alone_by (aC (eF (eV 0) 1) aN))) (eC (.str "yes")) (eC (.str "no"))))
  sN) sN)
  (sC (sR (eI (tQ .eq (eV 1) (eC (.str "may"))) (eBi strB (aC (eBi lenB (aC (eMc0 0 F_Tally_may_come (eV 0)) aN)) aN)) (eC (.str "not understood"))))
  sN)))))
def F_said_of_word : CF := defC 2 0 B_said_of_word
theorem p_said_of_word (m : Mo P w K mg base nm) {f : Addr} {fd : FuncData} (h_said_of_undo : Df false P w K mg base nm "said_of_undo" 2 1 F_said_of_undo) (h_total_by : Df false P w K mg base nm "total_by" 1 1 F_total_by) (h_Tally_is_even : Dm false P w K mg base nm 0 "is_even" 1 1 F_Tally_is_even) (h_are_alone_by : Df false P w K mg base nm "are_alone_by" 1 1 F_are_alone_by) (h_Tally_may_come : Dm false P w K mg base nm 0 "may_come" 1 1 F_Tally_may_come) (F : FnQ K "said_of_word" "said_of_word" (top 80) f fd) : FnG false P w K mg base 3 f fd ["tally", "word"] (spD nm K 2 F_said_of_word) :=
  (def_of (N := ["tally", "word"]) (ps := ["tally", "word"]) (m := 0) (b := B_said_of_word) F ⟨rfl, rfl, rfl, by decide +kernel, rfl, by decide +kernel, by decide +kernel⟩ rfl (by decide +kernel) fun cdv A outer s H E cc =>
    (wsC (wsI (wTQ (o := .eq) cc wVar wStr) (wsC (wsR (wCa cc h_said_of_undo (wAC wVar wAN)))
    wsN) wsN)
    (wsC (wsI (wTQ (o := .eq) cc wVar wStr) (wsC (wsR (wBt b_str m.n_str rfl (wAC (wCa cc h_total_by (wAC (wF (m.fl 1 (by decide)) wVar m.f1) wAN)) wAN)))
    wsN) wsN)
    (wsC (wsI (wTQ (o := .eq) cc wVar wStr) (wsC (wsR (wI (wT1 (wMc0 cc h_Tally_is_even (m.cl 0) (m.nof _ (by decide) (by decide)) wVar)) (wGStr m.c_YES) (wGStr m.c_NO)))
    wsN) wsN)
    (wsC (wsI (wTQ (o := .eq) cc wVar wStr) (wsC (wsR (wI (wT1 (wCa cc h_are_alone_by (wAC (wF (m.fl 1 (by decide)) wVar m.f1) wAN))) (wGStr m.c_YES) (wGStr m.c_NO)))
    wsN) wsN)
    (wsC (wsR (wI (wTQ (o := .eq) cc wVar wStr) (wBt b_str m.n_str rfl (wAC (wBi b_len m.n_len rfl (wAC (wMc0 cc h_Tally_may_come (m.cl 0) (m.nof _ (by decide) (by decide)) wVar) wAN)) wAN)) (wGStr m.c_LOST)))
    wsN))))))
theorem q_said_of_word (m : Mo P w K mg base nm) {f : Addr} {fd : FuncData} (h_said_of_undo : Df false P w K mg base nm "said_of_undo" 2 1 F_said_of_undo) (h_total_by : Df false P w K mg base nm "total_by" 1 1 F_total_by) (h_Tally_is_even : Dm false P w K mg base nm 0 "is_even" 1 1 F_Tally_is_even) (h_are_alone_by : Df false P w K mg base nm "are_alone_by" 1 1 F_are_alone_by) (h_Tally_may_come : Dm false P w K mg base nm 0 "may_come" 1 1 F_Tally_may_come) (F : FnQ K "said_of_word" "said_of_word" (top 80) f fd) (hm : mg "said_of_word" = some (.ref f)) : Df false P w K mg base nm "said_of_word" 3 2 F_said_of_word :=
  df_mkA F hm (F.bindsN fun _ _ _ _ _ _ us hl => match us, hl with | [_, _], _ => rfl) (p_said_of_word m h_said_of_undo h_total_by h_Tally_is_even h_are_alone_by h_Tally_may_come F)

def B_row_in : SF := (sC (sI (tN (tE1 (eBi allB (aC (eCo [2] (.nm 2) (iSs (eV 1)) cY (eQ .inn (eV 2) (eC (.str "01")))) aN)))) (sC (sR (eC .non))
  sN) sN)
  (sC (sA 3 (eBi tupleB (aC (eCo [2] (.nm 2) (iSs (eV 1)) cY (eMt .sindex sindexB (eC (.str "01")) (aC (eV 2) aN))) aN)))
  (sC (sR (eI (tE1 (eCa F_is_row (aC (eV 0) (aC (eV 3) aN)))) (eV 3) (eC .non)))
  sN)))
def F_row_in : CF := defC 2 2 B_row_in
theorem p_row_in (m : Mo P w K mg base nm) {f : Addr} {fd : FuncData} (h_is_row : Df false P w K mg base nm "is_row" 3 2 F_is_row) (F : FnQ K "row_in" "row_in" (top 55) f fd) : FnG false P w K mg base 4 f fd ["marks", "text"] (spD nm K 2 F_row_in) :=
  (def_of (N := ["marks", "text", "sign", "row"]) (ps := ["marks", "text"]) (m := 2) (b := B_row_in) F ⟨rfl, rfl, rfl, by decide +kernel, rfl, by decide +kernel, by decide +kernel⟩ rfl (by decide +kernel) fun cdv A outer s H E cc =>
    (wsC (wsI (wTN (wT1 (wBi (b_all rfl) m.n_all rfl (wAC (wCo ([("sign", 2)]) cc (wiSs wVar) (fun s H C cl fp cc' => ⟨(wgN cc'), wcY, (wQ (o := .inn) cc' wVar (wGStr m.c_SIGNS))⟩) tg_name) wAN)))) (wsC (wsR wNon)
    wsN) wsN)
    (wsC (wsA (wgN cc) (wBt b_tuple m.n_tuple rfl (wAC (wCo ([("sign", 2)]) cc (wiSs wVar) (fun s H C cl fp cc' => ⟨(wgN cc'), wcY, (wSindex (wGStr m.c_SIGNS) (wAC wVar wAN))⟩) tg_name) wAN)))
    (wsC (wsR (wI (wT1 (wCa cc h_is_row (wAC wVar (wAC wVar wAN)))) wVar wNon))
    wsN))))
theorem q_row_in (m : Mo P w K mg base nm) {f : Addr} {fd : FuncData} (h_is_row : Df false P w K mg base nm "is_row" 3 2 F_is_row) (F : FnQ K "row_in" "row_in" (top 55) f fd) (hm : mg "row_in" = some (.ref f)) : Df false P w K mg base nm "row_in" 4 2 F_row_in :=
  df_mkA F hm (F.bindsN fun _ _ _ _ _ _ us hl => match us, hl with | [_, _], _ => rfl) (p_row_in m h_is_row F)

def B_is_made_of : SF := (sC (sR (eAn (eQ .ne (eV 0) (eC (.str ""))) (eBi allB (aC (eCo [2] (.nm 2) (iSs (eV 0)) cY (eQ .inn (eV 2) (eV 1))) aN))))
  sN)
def F_is_made_of : CF := defC 2 1 B_is_made_of
theorem p_is_made_of (m : Mo P w K mg base nm) {f : Addr} {fd : FuncData} (F : FnQ K "is_made_of" "is_made_of" (top 14) f fd) : FnG false P w K mg base 1 f fd ["text", "signs"] (spD nm K 2 F_is_made_of) :=
  (def_of (N := ["text", "signs", "sign"]) (ps := ["text", "signs"]) (m := 1) (b := B_is_made_of) F ⟨rfl, rfl, rfl, by decide +kernel, rfl, by decide +kernel, by decide +kernel⟩ rfl (by decide +kernel) fun cdv A outer s H E cc =>
    (wsC (wsR (wAn (wQ (o := .ne) cc wVar wStr) (wE1 (wBi (b_all rfl) m.n_all rfl (wAC (wCo ([("sign", 2)]) cc (wiSs wVar) (fun s H C cl fp cc' => ⟨(wgN cc'), wcY, (wQ (o := .inn) cc' wVar wVar)⟩) tg_name) wAN)))))
    wsN))
theorem q_is_made_of (m : Mo P w K mg base nm) {f : Addr} {fd : FuncData} (F : FnQ K "is_made_of" "is_made_of" (top 14) f fd) (hm : mg "is_made_of" = some (.ref f)) : Df false P w K mg base nm "is_made_of" 1 2 F_is_made_of :=
  df_mkA F hm (F.bindsN fun _ _ _ _ _ _ us hl => match us, hl with | [_, _], _ => rfl) (p_is_made_of m  F)

def B_number_in : SF := (sC (sI (tOr (tN (tE1 (eCa F_is_made_of (aC (eV 0) (aC (eC (.str "0123456789")) aN))))) (tAn (tQ .gt (eBi lenB (aC (eV 0) aN)) (eC (.int 1))) (tQ .eq (eXs (eV 0) (eC (.int 0))) (eC (.str "0"))))) (sC (sR (eC .non))
  sN) sN)
  (sC (sA 1 (eC (.int 0)))
  (sC sBad
  (sC (sR (eV 1))
  sN))))
def F_number_in : CF := defC 1 2 B_number_in
theorem p_number_in (m : Mo P w K mg base nm) {f : Addr} {fd : FuncData} (h_is_made_of : Df false P w K mg base nm "is_made_of" 1 2 F_is_made_of) (F : FnQ K "number_in" "number_in" (top 17) f fd) : FnG false P w K mg base 2 f fd ["word"] (spD nm K 1 F_number_in) :=
  (def_of (N := ["word", "found", "sign"]) (ps := ["word"]) (m := 2) (b := B_number_in) F ⟨rfl, rfl, rfl, by decide +kernel, rfl, by decide +kernel, by decide +kernel⟩ rfl (by decide +kernel) fun cdv A outer s H E cc =>
    (wsC (wsI (wW (wTO (wTN (wT1 (wCa cc h_is_made_of (wAC wVar (wAC (wGStr m.c_FIGURES) wAN))))) (wO1 (wW (wTA (wTQ (o := .gt) cc (wBi b_len m.n_len rfl (wAC wVar wAN)) wInt) (wA1 (wTQ (o := .eq) cc (wXs wVar wInt) wStr))))))) (wsC (wsR wNon)
    wsN) wsN)
    (wsC (wsA (wgN cc) wInt)
    (wsC wsBad
    (wsC (wsR wVar)
    wsN)))))
theorem q_number_in (m : Mo P w K mg base nm) {f : Addr} {fd : FuncData} (h_is_made_of : Df false P w K mg base nm "is_made_of" 1 2 F_is_made_of) (F : FnQ K "number_in" "number_in" (top 17) f fd) (hm : mg "number_in" = some (.ref f)) : Df false P w K mg base nm "number_in" 2 1 F_number_in :=
  df_mkA F hm (F.bindsN fun _ _ _ _ _ _ us hl => match us, hl with | [_], _ => rfl) (p_number_in m h_is_made_of F)

def F_said_of_chance : CF := F_bad
theorem q_said_of_chance (m : Mo P w K mg base nm) {f : Addr} {fd : FuncData} (F : FnQ K "said_of_chance" "said_of_chance" (top 78) f fd) (hm : mg "said_of_chance" = some (.ref f)) : Df false P w K mg base nm "said_of_chance" 1 2 F_said_of_chance := df_bad (ps := ["tally", "mark"]) F hm (F.bindsN fun _ _ _ _ _ _ us hl => match us, hl with | [_, _], _ => rfl) rfl

def B_said_of_deed : SF := (sC (sThru (sC (sE' (eMc 0 F_Tally_do (eV 0) (aC (eV 1) aN)))
  sN))
  (sC (sR (eC (.str "done")))
  sN))
def F_said_of_deed : CF := defC 2 0 B_said_of_deed
theorem p_said_of_deed (m : Mo P w K mg base nm) {f : Addr} {fd : FuncData} (h_Tally_do : Dm false P w K mg base nm 0 "do" 7 2 F_Tally_do) (F : FnQ K "said_of_deed" "said_of_deed" (top 76) f fd) : FnG false P w K mg base 8 f fd ["tally", "deed"] (spD nm K 2 F_said_of_deed) :=
  (def_of (N := ["tally", "deed"]) (ps := ["tally", "deed"]) (m := 0) (b := B_said_of_deed) F ⟨rfl, rfl, rfl, by decide +kernel, rfl, by decide +kernel, by decide +kernel⟩ rfl (by decide +kernel) fun cdv A outer s H E cc =>
    (wsC (wsThru (wsC (wsE (wMc (Cc.nox cc) h_Tally_do (m.cl 0) (m.nof _ (by decide) (by decide)) wVar (wAC wVar wAN)))
    wsN))
    (wsC (wsR (wGStr m.c_DONE))
    wsN)))
theorem q_said_of_deed (m : Mo P w K mg base nm) {f : Addr} {fd : FuncData} (h_Tally_do : Dm false P w K mg base nm 0 "do" 7 2 F_Tally_do) (F : FnQ K "said_of_deed" "said_of_deed" (top 76) f fd) (hm : mg "said_of_deed" = some (.ref f)) : Df false P w K mg base nm "said_of_deed" 8 2 F_said_of_deed :=
  df_mkA F hm (F.bindsN fun _ _ _ _ _ _ us hl => match us, hl with | [_, _], _ => rfl) (p_said_of_deed m h_Tally_do F)

def B_said_of_two : SF := (sC (sA 3 (eCa F_row_in (aC (eF (eV 0) 0) (aC (eV 2) aN))))
  (sC (sI (tIK tb_SIZES (eV 1)) (sC (sR (eI (tQ .is (eV 3) (eC .non)) (eC (.str "not understood")) (eCa F_said_of_deed (aC (eV 0) (aC (eT (aC (eV 1) (aC (eV 3) aN))) aN)))))
  sN) sN)
  (sC (sI (tQ .eq (eV 1) (eC (.str "number"))) (sC (sR (eI (tQ .is (eV 3) (eC .non)) (eC (.str "not understood")) (eBi strB (aC (eCa F_number_at (aC (eF (eV 0) 1) (aC (eV 3) aN))) aN))))
  sN) sN)
  (sC (sA 4 (eI (tQ .eq (eV 1) (eC (.str "chance"))) (eCa F_number_in (aC (eV 2) aN)) (eC .non)))
  (sC (sR (eI (tQ .is (eV 4) (eC .non)) (eC (.str "not understood")) (eCa F_said_of_chance (aC (eV 0) (aC (eV 4) aN)))))
  sN)))))
def F_said_of_two : CF := defC 3 2 B_said_of_two
theorem p_said_of_two (m : Mo P w K mg base nm) {f : Addr} {fd : FuncData} (h_row_in : Df false P w K mg base nm "row_in" 4 2 F_row_in) (h_said_of_deed : Df false P w K mg base nm "said_of_deed" 8 2 F_said_of_deed) (h_number_at : Df false P w K mg base nm "number_at" 2 2 F_number_at) (h_number_in : Df false P w K mg base nm "number_in" 2 1 F_number_in) (h_said_of_chance : Df false P w K mg base nm "said_of_chance" 1 2 F_said_of_chance) (F : FnQ K "said_of_two" "said_of_two" (top 79) f fd) : FnG false P w K mg base 9 f fd ["tally", "word", "other"] (spD nm K 3 F_said_of_two) :=
  (def_of (N := ["tally", "word", "other", "row", "number"]) (ps := ["tally", "word", "other"]) (m := 2) (b := B_said_of_two) F ⟨rfl, rfl, rfl, by decide +kernel, rfl, by decide +kernel, by decide +kernel⟩ rfl (by decide +kernel) fun cdv A outer s H E cc =>
    (wsC (wsA (wgN cc) (wCa cc h_row_in (wAC (wF (m.fl 0 (by decide)) wVar m.f0) (wAC wVar wAN))))
    (wsC (wsI (wTIK m.t_SIZES wVar) (wsC (wsR (wI (wTQ (o := .is) cc wVar wNon) (wGStr m.c_LOST) (wCa cc h_said_of_deed (wAC wVar (wAC (wT (wAC wVar (wAC wVar wAN))) wAN)))))
    wsN) wsN)
    (wsC (wsI (wTQ (o := .eq) cc wVar wStr) (wsC (wsR (wI (wTQ (o := .is) cc wVar wNon) (wGStr m.c_LOST) (wBt b_str m.n_str rfl (wAC (wCa cc h_number_at (wAC (wF (m.fl 1 (by decide)) wVar m.f1) (wAC wVar wAN))) wAN))))
    wsN) wsN)
    (wsC (wsA (wgN cc) (wI (wTQ (o := .eq) cc wVar wStr) (wCa cc h_number_in (wAC wVar wAN)) wNon))
    (wsC (wsR (wI (wTQ (o := .is) cc wVar wNon) (wGStr m.c_LOST) (wCa cc h_said_of_chance (wAC wVar (wAC wVar wAN)))))
    wsN))))))
theorem q_said_of_two (m : Mo P w K mg base nm) {f : Addr} {fd : FuncData} (h_row_in : Df false P w K mg base nm "row_in" 4 2 F_row_in) (h_said_of_deed : Df false P w K mg base nm "said_of_deed" 8 2 F_said_of_deed) (h_number_at : Df false P w K mg base nm "number_at" 2 2 F_number_at) (h_number_in : Df false P w K mg base nm "number_in" 2 1 F_number_in) (h_said_of_chance : Df false P w K mg base nm "said_of_chance" 1 2 F_said_of_chance) (F : FnQ K "said_of_two" "said_of_two" (top 79) f fd) (hm : mg "said_of_two" = some (.ref f)) : Df false P w K mg base nm "said_of_two" 9 3 F_said_of_two :=
  df_mkA F hm (F.bindsN fun _ _ _ _ _ _ us hl => match us, hl with | [_, _, _], _ => rfl) (p_said_of_two m h_row_in h_said_of_deed h_number_at h_number_in h_said_of_chance F)

def B_Console_say : SF := (sC (sI (tN (tE1 (eCa F_is_string (aC (eV 1) aN)))) (sC (sRa 2 5 (eV 1))
  sN) sN)
  (sC (sA 2 (eCa F_words_of (aC (eV 1) aN)))
  (sC (sI (tOr (tQ .is (eV 2) (eC .non)) (tQ .gt (eBi lenB (aC (eV 2) aN)) (eC (.int 2)))) (sC (sR (eC (.str "not understood")))
  sN) sN)
  (sC (sR (eI (tQ .eq (eBi lenB (aC (eV 2) aN)) (eC (.int 1))) (eCa F_said_of_word (aC (eF (eV 0) 4) (aC (eX (eV 2) (eC (.int 0))) aN))) (eCa F_said_of_two (aC (eF (eV 0) 4) (aC (eX (eV 2) (eC (.int 0))) (aC (eX (eV 2) (eC (.int 1))) aN))))))
  sN))))
def F_Console_say : CF := defC 2 1 B_Console_say
theorem p_Console_say (m : Mo P w K mg base nm) {f : Addr} {fd : FuncData} (h_is_string : Df false P w K mg base nm "is_string" 1 1 F_is_string) (h_InvalidLine : Ec P w K mg base nm "InvalidLine" 2 5 1) (h_words_of : Df false P w K mg base nm "words_of" 1 1 F_words_of) (h_said_of_word : Df false P w K mg base nm "said_of_word" 3 2 F_said_of_word) (h_said_of_two : Df false P w K mg base nm "said_of_two" 9 3 F_said_of_two) (F : FnQ K "say" "Console.say" (mem (top 81) 1) f fd) : FnG false P w K mg base 10 f fd ["self", "line"] (spD nm K 2 F_Console_say) :=
  (def_of (N := ["self", "line", "words"]) (ps := ["self", "line"]) (m := 1) (b := B_Console_say) F ⟨rfl, rfl, rfl, by decide +kernel, rfl, by decide +kernel, by decide +kernel⟩ rfl (by decide +kernel) fun cdv A outer s H E cc =>
    (wsC (wsI (wTN (wT1 (wCa cc h_is_string (wAC wVar wAN)))) (wsC (wsRa cc h_InvalidLine wVar)
    wsN) wsN)
    (wsC (wsA (wgN cc) (wCa cc h_words_of (wAC wVar wAN)))
    (wsC (wsI (wW (wTO (wTQ (o := .is) cc wVar wNon) (wO1 (wTQ (o := .gt) cc (wBi b_len m.n_len rfl (wAC wVar wAN)) wInt)))) (wsC (wsR (wGStr m.c_LOST))
    wsN) wsN)
    (wsC (wsR (wI (wTQ (o := .eq) cc (wBi b_len m.n_len rfl (wAC wVar wAN)) wInt) (wCa cc h_said_of_word (wAC (wF (m.fl 4 (by decide)) wVar m.f4) (wAC (wX cc wVar wInt) wAN))) (wCa cc h_said_of_two (wAC (wF (m.fl 4 (by decide)) wVar m.f4) (wAC (wX cc wVar wInt) (wAC (wX cc wVar wInt) wAN))))))
    wsN)))))
theorem q_Console_say (m : Mo P w K mg base nm) {f : Addr} {fd : FuncData} (h_is_string : Df false P w K mg base nm "is_string" 1 1 F_is_string) (h_InvalidLine : Ec P w K mg base nm "InvalidLine" 2 5 1) (h_words_of : Df false P w K mg base nm "words_of" 1 1 F_words_of) (h_said_of_word : Df false P w K mg base nm "said_of_word" 3 2 F_said_of_word) (h_said_of_two : Df false P w K mg base nm "said_of_two" 9 3 F_said_of_two) (F : FnQ K "say" "Console.say" (mem (top 81) 1) f fd) (hm : Meth K (nm.cls 1) "say" f) : Dm false P w K mg base nm 1 "say" 10 2 F_Console_say :=
  dm_mk F hm (F.bindsN fun _ _ _ _ _ _ us hl => match us, hl with | [_, _], _ => rfl) (p_Console_say m h_is_string h_InvalidLine h_words_of h_said_of_word h_said_of_two F)

def B__law_right : SF := (sC (sG (gT [(gN 2), (gN 3)]) (eT (aC (eMk F_Console___init__ 1 (aC (eMk F_Tally___init__ 0 (aC (eV 1) aN)) aN)) (aC (eMs (eC (.str "1")) (eV 1)) aN))))
  (sC (sA 4 (eL (aC (eC (.str "")) (aC (eC (.str " ")) (aC (eC (.str "count")) (aC (eC (.str "count ")) (aC (eB .add (eC (.str "count  ")) (eV 3)) (aC (eB .add (eB .add (eC (.str "count ")) (eV 3)) (eC (.str " "))) (aC (eB .add (eC (.str " count ")) (eV 3)) (aC (eB .add (eC (.str "count")) (eV 3)) aN))))))))))
  (sC (sA 4 (eB .add (eV 4) (eL (aC (eB .add (eB .add (eC (.str "count ")) (eV 3)) (eC (.str "0"))) (aC (eB .add (eC (.str "count ")) (eSs (eV 3) (oS (eC (.int 1))) oN)) (aC (eB .add (eC (.str "count 2")) (eSs (eV 3) (oS (eC (.int 1))) oN)) (aC (eB .add (eC (.str "count -")) (eV 3)) (aC (eB .add (eC (.str "Count ")) (eV 3)) aN))))))))
  (sC (sA 4 (eB .add (eV 4) (eL (aC (eB .add (eB .add (eC (.str "count ")) (eV 3)) (eC (.str " 1"))) (aC (eC (.str "count a")) (aC (eC (.str "drop")) (aC (eB .add (eB .add (eC (.str "drop ")) (eV 3)) (eC (.str "1"))) (aC (eC (.str "drop 1 1")) (aC (eC (.str "drop  1")) aN)))))))))
  (sC (sA 4 (eB .add (eV 4) (eL (aC (eB .add (eC (.str "drop +")) (eV 3)) (aC (eC (.str "undo 1")) (aC (eC (.str "undo ")) (aC (eC (.str "UNDO")) (aC (eC (.str "total ")) (aC (eC (.str "totals")) (aC (eC (.str " total")) (aC (eC (.str "number")) (aC (eB .add (eC (.str "DROP ")) (eV 3)) aN))))))))))))
  (sC (sA 4 (eB .add (eV 4) (eL (aC (eB .add (eC (.str "number  ")) (eV 3)) (aC (eC (.str "number x")) (aC (eC (.str "even 1")) (aC (eC (.str "even?")) (aC (eC (.str "Even")) (aC (eC (.str "alone ")) (aC (eC (.str "alone 0")) (aC (eB .add (eC (.str "may ")) (eV 3)) aN)))))))))))
  (sC (sA 4 (eB .add (eV 4) (eL (aC (eB .add (eB .add (eC (.str "number ")) (eV 3)) (eC (.str "0"))) (aC (eC (.str "maybe")) aN)))))
  (sC (sA 4 (eB .add (eV 4) (eL (aC (eC (.str "chance")) (aC (eC (.str "chance ")) (aC (eC (.str "chance 00")) (aC (eC (.str "chance -1")) (aC (eC (.str "chance +0")) (aC (eC (.str "chance a")) (aC (eC (.str "chance 0 0")) (aC (eC (.str "chance  0")) aN)))))))))))
  (sC (sFo (.nm 5) (iS (eB .add (eV 4) (eL (aC (eC (.str "chance 0 ")) (aC (eC (.str "table")) (aC (eV 3) (aC (eC (.str "may
")) (aC (eC (.str "total
")) (aC (eB .add (eB .add (eC (.str "count ")) (eV 3)) (eC (.str "
"))) aN))))))))) (sC (sI (tQ .ne (eBi reprC (aC (eL (aC (eMc 1 F_Console_say (eV 2) (aC (eV 5) aN)) (aC (eMcK 0 1 [0] 1 F_Console_say (eV 2) aN (aC (eV 5) aN)) aN))) aN)) (eBi reprC (aC (eB .mul (eL (aC (eC (.str "not understood")) aN)) (eC (.int 2))) aN))) (sC (sR (eC (.bl false)))
  sN) sN)
  sN))
  (sC (sFo (.nm 6) (iS (eL (aC (eC .non) (aC (eC (.int 5)) (aC (eL (aC (eC (.str "undo")) aN)) (aC (eT (aC (eC (.str "undo")) aN)) (aC (eC (.bl true)) (aC (eC (.int 0)) aN)))))))) (sC (sI (tQ .ne (eBi reprC (aC (eLaT (refuF 2 3 5 "line" "tally") (eMc 1 F_Console_say (eV 2) (aC (eV 6) aN))) aN)) (eBi reprC (aC (eL (aC (eC (.str "line")) (aC (eV 6) aN))) aN))) (sC (sR (eC (.bl false)))
  sN) sN)
  (sC (sI (tQ .ne (eBi reprC (aC (eLaT (refuF 2 3 5 "line" "tally") (eMk F_Console___init__ 1 (aC (eV 6) aN))) aN)) (eBi reprC (aC (eL (aC (eC (.str "tally")) (aC (eV 6) aN))) aN))) (sC (sR (eC (.bl false)))
  sN) sN)
  sN)))
  (sC (sI (tQ .ne (eBi reprC (aC (eLaT (refuF 2 3 5 "line" "tally") (eMkK 0 1 [0] F_Console___init__ 1 aN (aC (eC (.str "total")) aN))) aN)) (eBi reprC (aC (eL (aC (eC (.str "tally")) (aC (eC (.str "total")) aN))) aN))) (sC (sR (eC (.bl false)))
  sN) sN)
  (sC (sA 7 (eDs [(1, "2"), (2, "4"), (3, "8")] (eV 1)))
  (sC (sA 8 (eCo [5] (.nm 5) (iS (eL (aC (eC (.str "undo")) (aC (eC (.str "total")) (aC (eB .add (eC (.str "number ")) (eV 3)) (aC (eB .add (eC (.str "count ")) (eV 3)) (aC (eC (.str "undo")) aN))))))) cY (eMc 1 F_Console_say (eV 2) (aC (eV 5) aN))))
  (sC (sR (eAn (eQ .eq (eV 8) (eL (aC (eC (.str "nothing")) (aC (eV 7) (aC (eC (.str "1")) (aC (eC (.str "done")) (aC (eC (.str "done")) aN))))))) (eQ .eq (eMc 1 F_Console_say (eV 2) (aC (eC (.str "total")) aN)) (eV 7))))
  sN))))))))))))))
def F__law_right : CF := defC 2 7 B__law_right
theorem p__law_right (m : Mo P w K mg base nm) {f : Addr} {fd : FuncData} (h_Tally___init__ : Dm false P w K mg base nm 0 "__init__" 5 2 F_Tally___init__) (h_Console___init__ : Dm false P w K mg base nm 1 "__init__" 9 2 F_Console___init__) (h_Console_say : Dm true P w K mg base nm 1 "say" 10 2 F_Console_say) (hl_Console_say : Dm false P w K mg base nm 1 "say" 10 2 F_Console_say) (h__law_refusal : LdT P w K mg base nm "_law_refusal" (refuF 2 3 5 "line" "tally")) (hl_Console___init__ : Dm false P w K mg base nm 1 "__init__" 9 2 F_Console___init__) (k0_Console_say : DmK true P w K mg base nm 1 "say" 10 2 F_Console_say 0 ["line"] [0]) (k1_Console___init__ : DmK false P w K mg base nm 1 "__init__" 9 2 F_Console___init__ 0 ["tally"] [0]) (hL : ∃ c T, fd.code = .ref c ∧ LamC base mg nm "_law_right.<locals>.<lambda>" c T) (F : FnQ K "_law_right" "_law_right" (top 87) f fd) : FnG true P w K mg base 13 f fd ["pool", "marks"] (spD nm K 2 F__law_right) :=
  (def_ofL (N := ["pool", "marks", "console", "row", "lines", "line", "odd", "whole", "told"]) (ps := ["pool", "marks"]) (m := 7) (b := B__law_right) F ⟨rfl, rfl, rfl, by decide +kernel, rfl, by decide +kernel, by decide +kernel⟩ rfl (by decide +kernel) hL fun c T A outer s H E LT cc =>
    (wsC (wsG (wT (wAC (wMk cc h_Console___init__ m.mk_Console m.g_Console (wAC (wMk cc h_Tally___init__ m.mk_Tally m.g_Tally (wAC wVar wAN)) wAN)) (wAC (wMs wStr wVar) wAN))) (wgT cc (wgLC (wgs (wgN cc)) (wgLC (wgs (wgN cc)) wgLN))))
    (wsC (wsA (wgN cc) (wL (wAC wStr (wAC wStr (wAC wStr (wAC wStr (wAC (wB (o := .add) wStr wVar) (wAC (wB (o := .add) (wB (o := .add) wStr wVar) wStr) (wAC (wB (o := .add) wStr wVar) (wAC (wB (o := .add) wStr wVar) wAN))))))))))
    (wsC (wsA (wgN cc) (wB (o := .add) wVar (wL (wAC (wB (o := .add) (wB (o := .add) wStr wVar) wStr) (wAC (wB (o := .add) wStr (wSs wVar (wOS wInt) wON)) (wAC (wB (o := .add) wStr (wSs wVar (wOS wInt) wON)) (wAC (wB (o := .add) wStr wVar) (wAC (wB (o := .add) wStr wVar) wAN))))))))
    (wsC (wsA (wgN cc) (wB (o := .add) wVar (wL (wAC (wB (o := .add) (wB (o := .add) wStr wVar) wStr) (wAC wStr (wAC wStr (wAC (wB (o := .add) (wB (o := .add) wStr wVar) wStr) (wAC wStr (wAC wStr wAN)))))))))
    (wsC (wsA (wgN cc) (wB (o := .add) wVar (wL (wAC (wB (o := .add) wStr wVar) (wAC wStr (wAC wStr (wAC wStr (wAC wStr (wAC wStr (wAC wStr (wAC wStr (wAC (wB (o := .add) wStr wVar) wAN))))))))))))
    (wsC (wsA (wgN cc) (wB (o := .add) wVar (wL (wAC (wB (o := .add) wStr wVar) (wAC wStr (wAC wStr (wAC wStr (wAC wStr (wAC wStr (wAC wStr (wAC (wB (o := .add) wStr wVar) wAN)))))))))))
    (wsC (wsA (wgN cc) (wB (o := .add) wVar (wL (wAC (wB (o := .add) (wB (o := .add) wStr wVar) wStr) (wAC wStr wAN)))))
    (wsC (wsA (wgN cc) (wB (o := .add) wVar (wL (wAC wStr (wAC wStr (wAC wStr (wAC wStr (wAC wStr (wAC wStr (wAC wStr (wAC wStr wAN)))))))))))
    (wsC (wsF cc (passes_of rfl) tg_name (wgN cc) (wiS (wB (o := .add) wVar (wL (wAC wStr (wAC wStr (wAC wVar (wAC wStr (wAC wStr (wAC (wB (o := .add) (wB (o := .add) wStr wVar) wStr) wAN))))))))) (wsC (wsI (wTQ (o := .ne) cc (wBi (b_repr (cc.hg rfl) cc.gx.hu) m.n_repr rfl (wAC (wL (wAC (wMc cc h_Console_say (m.cl 1) (m.nof _ (by decide) (by decide)) wVar (wAC wVar wAN)) (wAC (wMcK0 cc k0_Console_say (m.cl 1) (m.nof _ (by decide) (by decide)) wVar (wKC wVar wKN)) wAN))) wAN)) (wBi (b_repr (cc.hg rfl) cc.gx.hu) m.n_repr rfl (wAC (wB (o := .mul) (wL (wAC wStr wAN)) wInt) wAN))) (wsC (wsR wBl)
    wsN) wsN)
    wsN))
    (wsC (wsF cc (passes_of rfl) tg_name (wgN cc) (wiS (wL (wAC wNon (wAC wInt (wAC (wL (wAC wStr wAN)) (wAC (wT (wAC wStr wAN)) (wAC wBl (wAC wInt wAN)))))))) (wsC (wsI (wTQ (o := .ne) cc (wBi (b_repr (cc.hg rfl) cc.gx.hu) m.n_repr rfl (wAC (wLaT (j := 10) cc h__law_refusal LT (fun A outer s H E f c ccL => (wMc ccL hl_Console_say (m.cl 1) (m.nof _ (by decide) (by decide)) wVar (wAC wVar wAN)))) wAN)) (wBi (b_repr (cc.hg rfl) cc.gx.hu) m.n_repr rfl (wAC (wL (wAC wStr (wAC wVar wAN))) wAN))) (wsC (wsR wBl)
    wsN) wsN)
    (wsC (wsI (wTQ (o := .ne) cc (wBi (b_repr (cc.hg rfl) cc.gx.hu) m.n_repr rfl (wAC (wLaT (j := 10) cc h__law_refusal LT (fun A outer s H E f c ccL => (wMk ccL hl_Console___init__ m.mk_Console m.g_Console (wAC wVar wAN)))) wAN)) (wBi (b_repr (cc.hg rfl) cc.gx.hu) m.n_repr rfl (wAC (wL (wAC wStr (wAC wVar wAN))) wAN))) (wsC (wsR wBl)
    wsN) wsN)
    wsN)))
    (wsC (wsI (wTQ (o := .ne) cc (wBi (b_repr (cc.hg rfl) cc.gx.hu) m.n_repr rfl (wAC (wLaT (j := 10) cc h__law_refusal LT (fun A outer s H E f c ccL => (wMkK0 ccL k1_Console___init__ m.mk_Console m.g_Console (wKC wStr wKN)))) wAN)) (wBi (b_repr (cc.hg rfl) cc.gx.hu) m.n_repr rfl (wAC (wL (wAC wStr (wAC wStr wAN))) wAN))) (wsC (wsR wBl)
    wsN) wsN)
    (wsC (wsA (wgN cc) (wDs cc [(1, "2"), (2, "4"), (3, "8")] (pps_cons pe_int pe_str (pps_cons pe_int pe_str (pps_cons pe_int pe_str pps_nil))) wVar))
    (wsC (wsCo ([("line", 5)]) cc (wiS (wL (wAC wStr (wAC wStr (wAC (wB (o := .add) wStr wVar) (wAC (wB (o := .add) wStr wVar) (wAC wStr wAN))))))) (fun s H C cl fp cc' => ⟨(wgN cc'), wcY, (wMc cc' h_Console_say (m.cl 1) (m.nof _ (by decide) (by decide)) wVar (wAC wVar wAN))⟩) tg_name)
    (wsC (wsR (wAn (wQ (o := .eq) cc wVar (wL (wAC wStr (wAC wVar (wAC wStr (wAC wStr (wAC wStr wAN))))))) (wE1 (wQ (o := .eq) cc (wMc cc h_Console_say (m.cl 1) (m.nof _ (by decide) (by decide)) wVar (wAC wStr wAN)) wVar))))
    wsN)))))))))))))))
theorem q__law_right (m : Mo P w K mg base nm) {f : Addr} {fd : FuncData} (h_Tally___init__ : Dm false P w K mg base nm 0 "__init__" 5 2 F_Tally___init__) (h_Console___init__ : Dm false P w K mg base nm 1 "__init__" 9 2 F_Console___init__) (h_Console_say : Dm true P w K mg base nm 1 "say" 10 2 F_Console_say) (hl_Console_say : Dm false P w K mg base nm 1 "say" 10 2 F_Console_say) (h__law_refusal : LdT P w K mg base nm "_law_refusal" (refuF 2 3 5 "line" "tally")) (hl_Console___init__ : Dm false P w K mg base nm 1 "__init__" 9 2 F_Console___init__) (k0_Console_say : DmK true P w K mg base nm 1 "say" 10 2 F_Console_say 0 ["line"] [0]) (k1_Console___init__ : DmK false P w K mg base nm 1 "__init__" 9 2 F_Console___init__ 0 ["tally"] [0]) (hL : ∃ c T, fd.code = .ref c ∧ LamC base mg nm "_law_right.<locals>.<lambda>" c T) (F : FnQ K "_law_right" "_law_right" (top 87) f fd) (hm : mg "_law_right" = some (.ref f)) : Df true P w K mg base nm "_law_right" 13 2 F__law_right :=
  df_mkA F hm (F.bindsN fun _ _ _ _ _ _ us hl => match us, hl with | [_, _], _ => rfl) (p__law_right m h_Tally___init__ h_Console___init__ h_Console_say hl_Console_say h__law_refusal hl_Console___init__ k0_Console_say k1_Console___init__ hL F)

def B_law : SF := (sC (sFo (.nm 1) (iR1 (aC (eBi maxB (aC (eC (.int 2)) (aC (eBi minB (aC (eBi lenB (aC (eV 0) aN)) (aC (eC (.int 3)) aN))) aN))) aN)) (sC (sA 2 (eCa F__law_pool (aC (eV 0) (aC (eV 1) aN))))
  (sC (sFo (.nm 3) (iS (eL (aC (eC (.int 2)) (aC (eC (.int 3)) (aC (eC (.int 1)) aN))))) (sC (sI (tN (tE1 (eCa F__law_right (aC (eV 2) (aC (eV 3) aN))))) (sC (sR (eC (.bl false)))
  sN) sN)
  sN))
  sN)))
  (sC (sR (eC (.bl true)))
  sN))
def F_law : CF := defC 1 3 B_law
theorem q_law (m : Mo P w K mg base nm) {f : Addr} {fd : FuncData} (h__law_pool : Df true P w K mg base nm "_law_pool" 1 2 F__law_pool) (h__law_right : Df true P w K mg base nm "_law_right" 13 2 F__law_right) (F : FnQ K "law" "law" (top 88) f fd) : FnG true P w K mg base 14 f fd ["script"] (spD nm K 1 F_law) :=
  (def_of (N := ["script", "k", "pool", "most"]) (ps := ["script"]) (m := 3) (b := B_law) F ⟨rfl, rfl, rfl, by decide +kernel, rfl, by decide +kernel, by decide +kernel⟩ rfl (by decide +kernel) fun cdv A outer s H E cc =>
    (wsC (wsF cc (passes_of rfl) tg_name (wgN cc) (wiR1 m.n_range (wAC (wBi (b_max rfl) m.n_max rfl (wAC wInt (wAC (wBi (b_min rfl) m.n_min rfl (wAC (wBi b_len m.n_len rfl (wAC wVar wAN)) (wAC wInt wAN))) wAN))) wAN)) (wsC (wsA (wgN cc) (wCa cc h__law_pool (wAC wVar (wAC wVar wAN))))
    (wsC (wsF cc (passes_of rfl) tg_name (wgN cc) (wiS (wL (wAC wInt (wAC wInt (wAC wInt wAN))))) (wsC (wsI (wTN (wT1 (wCa cc h__law_right (wAC wVar (wAC wVar wAN))))) (wsC (wsR wBl)
    wsN) wsN)
    wsN))
    wsN)))
    (wsC (wsR wBl)
    wsN)))

end
end PM

namespace PM
open PySem PySem.Spec PyProof.Rows L2 He
def fnL : List DefD := [⟨("_law_pool", none), "_law_pool", "_law_pool", defArgs (top 83), defBody (top 83), defScope (top 83), [], []⟩,
  ⟨("check_tally", none), "check_tally", "check_tally", defArgs (top 67), defBody (top 67), defScope (top 67), [], []⟩,
  ⟨("is_whole", none), "is_whole", "is_whole", defArgs (top 11), defBody (top 11), defScope (top 11), [], []⟩,
  ⟨("is_between", none), "is_between", "is_between", defArgs (top 12), defBody (top 12), defScope (top 12), [], []⟩,
  ⟨("is_marks", none), "is_marks", "is_marks", defArgs (top 26), defBody (top 26), defScope (top 26), [], []⟩,
  ⟨("check_marks", none), "check_marks", "check_marks", defArgs (top 27), defBody (top 27), defScope (top 27), [], []⟩,
  ⟨("rows_by", none), "rows_by", "rows_by", defArgs (top 30), defBody (top 30), defScope (top 30), [], []⟩,
  ⟨("Tally", some "__init__"), "__init__", "Tally.__init__", defArgs (mem (top 66) 0), defBody (mem (top 66) 0), defScope (mem (top 66) 0), [], []⟩,
  ⟨("is_string", none), "is_string", "is_string", defArgs (top 13), defBody (top 13), defScope (top 13), [], []⟩,
  ⟨("has_form", none), "has_form", "has_form", defArgs (top 62), defBody (top 62), defScope (top 62), [], []⟩,
  ⟨("is_tuple_of", none), "is_tuple_of", "is_tuple_of", defArgs (top 15), defBody (top 15), defScope (top 15), [], []⟩,
  ⟨("is_row", none), "is_row", "is_row", defArgs (top 29), defBody (top 29), defScope (top 29), [], []⟩,
  ⟨("check_deed", none), "check_deed", "check_deed", defArgs (top 63), defBody (top 63), defScope (top 63), [], []⟩,
  ⟨("index_of", none), "index_of", "index_of", defArgs (top 31), defBody (top 31), defScope (top 31), [], []⟩,
  ⟨("number_at", none), "number_at", "number_at", defArgs (top 40), defBody (top 40), defScope (top 40), [], []⟩,
  ⟨("total_by", none), "total_by", "total_by", defArgs (top 39), defBody (top 39), defScope (top 39), [], []⟩,
  ⟨("lots_by", none), "lots_by", "lots_by", defArgs (top 35), defBody (top 35), defScope (top 35), [], []⟩,
  ⟨("with_changed", none), "with_changed", "with_changed", defArgs (top 34), defBody (top 34), defScope (top 34), [], []⟩,
  ⟨("is_rising_by", none), "is_rising_by", "is_rising_by", defArgs (top 36), defBody (top 36), defScope (top 36), [], []⟩,
  ⟨("rising_by", none), "rising_by", "rising_by", defArgs (top 37), defBody (top 37), defScope (top 37), [], []⟩,
  ⟨("marks_of", none), "marks_of", "marks_of", defArgs (top 38), defBody (top 38), defScope (top 38), [], []⟩,
  ⟨("bar_by", none), "bar_by", "bar_by", defArgs (top 43), defBody (top 43), defScope (top 43), [], []⟩,
  ⟨("helps_by", none), "helps_by", "helps_by", defArgs (top 44), defBody (top 44), defScope (top 44), [], []⟩,
  ⟨("with_more", none), "with_more", "with_more", defArgs (top 64), defBody (top 64), defScope (top 64), [], []⟩,
  ⟨("reason_against", none), "reason_against", "reason_against", defArgs (top 65), defBody (top 65), defScope (top 65), [], []⟩,
  ⟨("Tally", some "do"), "do", "Tally.do", defArgs (mem (top 66) 1), defBody (mem (top 66) 1), defScope (mem (top 66) 1), [], []⟩,
  ⟨("copy_of", none), "copy_of", "copy_of", defArgs (top 68), defBody (top 68), defScope (top 68), [], []⟩,
  ⟨("Console", some "__init__"), "__init__", "Console.__init__", defArgs (mem (top 81) 0), defBody (mem (top 81) 0), defScope (mem (top 81) 0), [], []⟩,
  ⟨("words_of", none), "words_of", "words_of", defArgs (top 16), defBody (top 16), defScope (top 16), [], []⟩,
  ⟨("Tally", some "undo"), "undo", "Tally.undo", defArgs (mem (top 66) 2), defBody (mem (top 66) 2), defScope (mem (top 66) 2), [], []⟩,
  ⟨("said_of_undo", none), "said_of_undo", "said_of_undo", defArgs (top 77), defBody (top 77), defScope (top 77), [], []⟩,
  ⟨("Tally", some "is_even"), "is_even", "Tally.is_even", defArgs (mem (top 66) 4), defBody (mem (top 66) 4), defScope (mem (top 66) 4), [], []⟩,
  ⟨("are_alone_by", none), "are_alone_by", "are_alone_by", defArgs (top 52), defBody (top 52), defScope (top 52), [], []⟩,
  ⟨("Tally", some "may_come"), "may_come", "Tally.may_come", defArgs (mem (top 66) 3), defBody (mem (top 66) 3), defScope (mem (top 66) 3), [], []⟩,
  ⟨("said_of_word", none), "said_of_word", "said_of_word", defArgs (top 80), defBody (top 80), defScope (top 80), [], []⟩,
  ⟨("row_in", none), "row_in", "row_in", defArgs (top 55), defBody (top 55), defScope (top 55), [], []⟩,
  ⟨("is_made_of", none), "is_made_of", "is_made_of", defArgs (top 14), defBody (top 14), defScope (top 14), [], []⟩,
  ⟨("number_in", none), "number_in", "number_in", defArgs (top 17), defBody (top 17), defScope (top 17), [], []⟩,
  ⟨("said_of_chance", none), "said_of_chance", "said_of_chance", defArgs (top 78), defBody (top 78), defScope (top 78), [], []⟩,
  ⟨("said_of_deed", none), "said_of_deed", "said_of_deed", defArgs (top 76), defBody (top 76), defScope (top 76), [], []⟩,
  ⟨("said_of_two", none), "said_of_two", "said_of_two", defArgs (top 79), defBody (top 79), defScope (top 79), [], []⟩,
  ⟨("Console", some "say"), "say", "Console.say", defArgs (mem (top 81) 1), defBody (mem (top 81) 1), defScope (mem (top 81) 1), [], []⟩,
  ⟨("_law_right", none), "_law_right", "_law_right", defArgs (top 87), defBody (top 87), defScope (top 87), [], []⟩,
  ⟨("law", none), "law", "law", defArgs (top 88), defBody (top 88), defScope (top 88), [], []⟩,
  ⟨("_law_refusal", none), "_law_refusal", "_law_refusal", defArgs (top 86), defBody (top 86), defScope (top 86), [], []⟩,
  ⟨("Barred", some "__init__"), "__init__", "Barred.__init__", defArgs (mem (top 7) 0), defBody (mem (top 7) 0), defScope (mem (top 7) 0), [], []⟩,
  ⟨("InvalidDeed", some "__init__"), "__init__", "InvalidDeed.__init__", defArgs (mem (top 6) 0), defBody (mem (top 6) 0), defScope (mem (top 6) 0), [], []⟩,
  ⟨("InvalidLine", some "__init__"), "__init__", "InvalidLine.__init__", defArgs (mem (top 4) 0), defBody (mem (top 4) 0), defScope (mem (top 4) 0), [], []⟩,
  ⟨("InvalidNumber", some "__init__"), "__init__", "InvalidNumber.__init__", defArgs (mem (top 3) 0), defBody (mem (top 3) 0), defScope (mem (top 3) 0), [], []⟩,
  ⟨("NotATally", some "__init__"), "__init__", "NotATally.__init__", defArgs (mem (top 5) 0), defBody (mem (top 5) 0), defScope (mem (top 5) 0), [], []⟩]
def faL : List Fa := [.free "abs", .free "all", .free "bool", .free "dict", .free "enumerate", .free "int", .free "isinstance", .free "len", .free "list", .free "max", .free "min", .free "range", .free "repr", .free "sorted", .free "str", .free "sum", .free "tuple", .free "zip", .str "FIGURES" "0123456789", .int "MOST_MARKS" 3, .int "MOST_NUMBER" 99, .str "SIGNS" "01", .str "FULL" "full", .str "NONE_tallies" "none", .str "LAST" "last", .str "HINDERS" "hinders", .str "LOST" "not understood", .str "DONE" "done", .str "NONE_consoles" "none", .str "NOTHING" "nothing", .str "YES" "yes", .str "NO" "no", .glo "LENGTHS", .glo "SIZES", .glo "Tally", .mkr "Tally", .glo "Console", .mkr "Console", .cls "Tally", .cls "Console", .noat "Tally" "marks", .noat "Tally" "table", .noat "Tally" "deeds", .noat "Tally" "past", .noat "Tally" "tally", .noat "Tally" "given", .noat "Tally" "index", .noat "Tally" "reason", .noat "Console" "marks", .noat "Console" "table", .noat "Console" "deeds", .noat "Console" "past", .noat "Console" "tally", .noat "Console" "given", .noat "Console" "index", .noat "Console" "reason", .glo "_law_pool", .glo "check_tally", .glo "is_whole", .glo "is_between", .glo "is_marks", .glo "check_marks", .glo "rows_by", .meth "Tally" "__init__", .glo "is_string", .glo "has_form", .glo "is_tuple_of", .glo "is_row", .glo "check_deed", .glo "index_of", .glo "number_at", .glo "total_by", .glo "lots_by", .glo "with_changed", .glo "is_rising_by", .glo "rising_by", .glo "marks_of", .glo "bar_by", .glo "helps_by", .glo "with_more", .glo "reason_against", .meth "Tally" "do", .glo "copy_of", .meth "Console" "__init__", .glo "words_of", .meth "Tally" "undo", .glo "said_of_undo", .meth "Tally" "is_even", .glo "are_alone_by", .meth "Tally" "may_come", .glo "said_of_word", .glo "row_in", .glo "is_made_of", .glo "number_in", .glo "said_of_chance", .glo "said_of_deed", .glo "said_of_two", .meth "Console" "say", .glo "_law_right", .glo "law", .glo "_law_refusal", .glo "NothingToUndo", .exm "NothingToUndo" "NothingToUndo" true, .meth "Barred" "__init__", .glo "Barred", .noat "Barred" "reason", .meth "InvalidDeed" "__init__", .glo "InvalidDeed", .noat "InvalidDeed" "index", .meth "InvalidLine" "__init__", .glo "InvalidLine", .noat "InvalidLine" "given", .meth "InvalidNumber" "__init__", .glo "InvalidNumber", .noat "InvalidNumber" "given", .meth "NotATally" "__init__", .glo "NotATally", .noat "NotATally" "given", .glo "MarkError", .exm "InvalidLine" "MarkError" true, .exm "NotATally" "MarkError" true]
def tsL : List Tab := [((fun K => ga K "SIZES"), ["count", "drop"])]
def tfL : List Defn := [("_law_right", none)]
def exs (K : Frg) : List Bool := [tbIB K (ga K "LENGTHS") tb_LENGTHS,
  tbSB K (ga K "SIZES") tk_SIZES,
  insB K (ga K "Tally"),
  insB K (ga K "Console"),
  tyB K [ga K "Tally", ga K "Console"] .int (.type "int"),
  tyB K [ga K "Tally", ga K "Console"] .bool (.type "bool"),
  tyB K [ga K "Tally", ga K "Console"] .str (.type "str"),
  tyB K [ga K "Tally", ga K "Console"] .tuple (.type "tuple"),
  tyB K [ga K "Tally", ga K "Console"] .list (.type "list"),
  tyB K [ga K "Tally", ga K "Console"] (.own 0) (.ref (ga K "Tally")),
  decide (PySem.W.kitOne K (.ref (ga K "Tally")) (.ref (ga K "Tally")) = some true),
  tyB K [ga K "Tally", ga K "Console"] (.own 1) (.ref (ga K "Console")),
  decide (PySem.W.kitOne K (.ref (ga K "Console")) (.ref (ga K "Console")) = some true),
  eoB K (ga K "NothingToUndo"),
  oexB K (ga K "Barred"),
  decide (PySem.W.typeIn K (.ref (ma K (ga K "Barred") "__init__")) = some (.type "function")),
  oexB K (ga K "InvalidDeed"),
  decide (PySem.W.typeIn K (.ref (ma K (ga K "InvalidDeed") "__init__")) = some (.type "function")),
  oexB K (ga K "InvalidLine"),
  decide (PySem.W.typeIn K (.ref (ma K (ga K "InvalidLine") "__init__")) = some (.type "function")),
  oexB K (ga K "InvalidNumber"),
  decide (PySem.W.typeIn K (.ref (ma K (ga K "InvalidNumber") "__init__")) = some (.type "function")),
  oexB K (ga K "NotATally"),
  decide (PySem.W.typeIn K (.ref (ma K (ga K "NotATally") "__init__")) = some (.type "function")),
  xfB K (ga K "InvalidLine"),
  excCB K (ga K "InvalidLine"),
  xfB K (ga K "NotATally"),
  excCB K (ga K "NotATally"),
  decide (PySem.W.kitOne K (.ref (ga K "InvalidLine")) (.ref (ga K "InvalidLine")) = some true),
  decide (PySem.W.kitOne K (.ref (ga K "NotATally")) (.ref (ga K "InvalidLine")) = some false),
  decide (PySem.W.kitOne K (.ref (ga K "NotATally")) (.ref (ga K "NotATally")) = some true)]
def exL (K : Frg) : Bool := (exs K).all id
abbrev hkL : PySem.W.Hook := hookX 4 faL fnL tsL tfL exL
def obL (s : PySem.W.SharedT) : AlX := obsX 4 faL fnL tsL tfL exL (HandSHeadRun.getT s)
theorem obL_eq (s : PySem.W.SharedT) : obL s = hkL.obs s.abs := obsX_eq (HandSHeadRun.getT_eq s)
theorem obsL (w : World) (os : OsState) : obL (sEnd.at w os) = hkL.val w := by kernel_rfl
theorem leftH : PySem.W.LeftO RL.prog qL nsL (fun s => PySem.W.xlAt qL [] s && PySem.W.recOk RL.toRowW.records s) hkL.obs hkL.val 60000 true := leftL obL_eq obsL
def nmL (K : Frg) : Nm := nmOf K "Tally" ["Tally", "Console"] ["MarkError", "InvalidNumber", "InvalidLine", "NotATally", "InvalidDeed", "Barred", "NothingToUndo"] ["marks", "table", "deeds", "past", "tally", "given", "index", "reason"] [((cT K ("_law_right", none)).2, "_law_right.<locals>.<lambda>")]
section
variable {P : Program} {w : World} {K : Frg} {mg : Str → Option Value} {base : Heap} {h : Heap}
theorem moL (X : K.In h) (G : h.Ns mainGlobals mg) (c : SaysX faL fnL tsL tfL exL w h K) : Mo P w K mg base (nmL K) := by
  have hex : ∀ i b, (exs K)[i]? = some b → b = true := fun i b e => List.all_eq_true.mp c.more b (List.mem_of_getElem? e)
  have hex : ∀ (i : Nat) {b : Bool}, (exs K)[i]? = some b → b = true := fun i b e => hex i b e
  have hIns : ∀ C ∈ ([ga K "Tally", ga K "Console"] : List Addr), InsC K C := by
    intro C hC
    simp only [List.mem_cons, List.not_mem_nil, or_false] at hC
    rcases hC with rfl | rfl
    · exact insB_ok (cls_ok (c.t.d.fact 38 (f := .cls "Tally") rfl)) (hex 2 rfl)
    · exact insB_ok (cls_ok (c.t.d.fact 39 (f := .cls "Console") rfl)) (hex 3 rfl)
  have hcl : ∀ k, Cls K ((nmL K).cls k) := fun k => (hIns _ (nmOf_cls (by decide) k)).cl
  have hfl : ∀ f, f < 8 → FlOk (nmL K) K f := by
    intro f hf
    refine ⟨fld_inj (by decide) (by decide) hf, fun k => ⟨hcl k, ?_⟩⟩
    have hk := nmOf_cls (K := K) (cs := ["Tally", "Console"]) (c0 := "Tally") (xs := ["MarkError", "InvalidNumber", "InvalidLine", "NotATally", "InvalidDeed", "Barred", "NothingToUndo"]) (fs := ["marks", "table", "deeds", "past", "tally", "given", "index", "reason"]) (T := [((cT K ("_law_right", none)).2, "_law_right.<locals>.<lambda>")]) (by decide) k
    change (nmL K).cls k ∈ [ga K "Tally", ga K "Console"] at hk
    simp only [List.mem_cons, List.not_mem_nil, or_false] at hk
    rcases hk with hk | hk
    · rw [hk]
      exact (match f, hf with | 0, _ => noat_ok (c.t.d.fact 40 (f := .noat "Tally" "marks") rfl) | 1, _ => noat_ok (c.t.d.fact 41 (f := .noat "Tally" "table") rfl) | 2, _ => noat_ok (c.t.d.fact 42 (f := .noat "Tally" "deeds") rfl) | 3, _ => noat_ok (c.t.d.fact 43 (f := .noat "Tally" "past") rfl) | 4, _ => noat_ok (c.t.d.fact 44 (f := .noat "Tally" "tally") rfl) | 5, _ => noat_ok (c.t.d.fact 45 (f := .noat "Tally" "given") rfl) | 6, _ => noat_ok (c.t.d.fact 46 (f := .noat "Tally" "index") rfl) | 7, _ => noat_ok (c.t.d.fact 47 (f := .noat "Tally" "reason") rfl))
    · rw [hk]
      exact (match f, hf with | 0, _ => noat_ok (c.t.d.fact 48 (f := .noat "Console" "marks") rfl) | 1, _ => noat_ok (c.t.d.fact 49 (f := .noat "Console" "table") rfl) | 2, _ => noat_ok (c.t.d.fact 50 (f := .noat "Console" "deeds") rfl) | 3, _ => noat_ok (c.t.d.fact 51 (f := .noat "Console" "past") rfl) | 4, _ => noat_ok (c.t.d.fact 52 (f := .noat "Console" "tally") rfl) | 5, _ => noat_ok (c.t.d.fact 53 (f := .noat "Console" "given") rfl) | 6, _ => noat_ok (c.t.d.fact 54 (f := .noat "Console" "index") rfl) | 7, _ => noat_ok (c.t.d.fact 55 (f := .noat "Console" "reason") rfl))
  exact {
    n_abs := free_ok X G (c.t.d.fact 0 (f := .free "abs") rfl)
    n_all := free_ok X G (c.t.d.fact 1 (f := .free "all") rfl)
    n_bool := free_ok X G (c.t.d.fact 2 (f := .free "bool") rfl)
    n_dict := free_ok X G (c.t.d.fact 3 (f := .free "dict") rfl)
    n_enumerate := free_ok X G (c.t.d.fact 4 (f := .free "enumerate") rfl)
    n_int := free_ok X G (c.t.d.fact 5 (f := .free "int") rfl)
    n_isinstance := free_ok X G (c.t.d.fact 6 (f := .free "isinstance") rfl)
    n_len := free_ok X G (c.t.d.fact 7 (f := .free "len") rfl)
    n_list := free_ok X G (c.t.d.fact 8 (f := .free "list") rfl)
    n_max := free_ok X G (c.t.d.fact 9 (f := .free "max") rfl)
    n_min := free_ok X G (c.t.d.fact 10 (f := .free "min") rfl)
    n_range := free_ok X G (c.t.d.fact 11 (f := .free "range") rfl)
    n_repr := free_ok X G (c.t.d.fact 12 (f := .free "repr") rfl)
    n_sorted := free_ok X G (c.t.d.fact 13 (f := .free "sorted") rfl)
    n_str := free_ok X G (c.t.d.fact 14 (f := .free "str") rfl)
    n_sum := free_ok X G (c.t.d.fact 15 (f := .free "sum") rfl)
    n_tuple := free_ok X G (c.t.d.fact 16 (f := .free "tuple") rfl)
    n_zip := free_ok X G (c.t.d.fact 17 (f := .free "zip") rfl)
    c_FIGURES := str_ok X G (c.t.d.fact 18 (f := .str "FIGURES" "0123456789") rfl)
    c_MOST_MARKS := int_ok X G (c.t.d.fact 19 (f := .int "MOST_MARKS" 3) rfl)
    c_MOST_NUMBER := int_ok X G (c.t.d.fact 20 (f := .int "MOST_NUMBER" 99) rfl)
    c_SIGNS := str_ok X G (c.t.d.fact 21 (f := .str "SIGNS" "01") rfl)
    c_FULL := str_ok X G (c.t.d.fact 22 (f := .str "FULL" "full") rfl)
    c_NONE_tallies := str_ok X G (c.t.d.fact 23 (f := .str "NONE_tallies" "none") rfl)
    c_LAST := str_ok X G (c.t.d.fact 24 (f := .str "LAST" "last") rfl)
    c_HINDERS := str_ok X G (c.t.d.fact 25 (f := .str "HINDERS" "hinders") rfl)
    c_LOST := str_ok X G (c.t.d.fact 26 (f := .str "LOST" "not understood") rfl)
    c_DONE := str_ok X G (c.t.d.fact 27 (f := .str "DONE" "done") rfl)
    c_NONE_consoles := str_ok X G (c.t.d.fact 28 (f := .str "NONE_consoles" "none") rfl)
    c_NOTHING := str_ok X G (c.t.d.fact 29 (f := .str "NOTHING" "nothing") rfl)
    c_YES := str_ok X G (c.t.d.fact 30 (f := .str "YES" "yes") rfl)
    c_NO := str_ok X G (c.t.d.fact 31 (f := .str "NO" "no") rfl)
    t_LENGTHS := ⟨_, glo_ok X G (c.t.d.fact 32 (f := .glo "LENGTHS") rfl), tbIB_ok (hex 0 rfl)⟩
    t_SIZES := ⟨_, glo_ok X G (c.t.d.fact 33 (f := .glo "SIZES") rfl), tbSB_ok (kvs := tk_SIZES) (c.t.tab 0 rfl) (hex 1 rfl)⟩
    y_int := tyB_ok (nmOf_cls (by decide)) hIns (hex 4 rfl) (by intro c h; cases h)
    y_bool := tyB_ok (nmOf_cls (by decide)) hIns (hex 5 rfl) (by intro c h; cases h)
    y_str := tyB_ok (nmOf_cls (by decide)) hIns (hex 6 rfl) (by intro c h; cases h)
    y_tuple := tyB_ok (nmOf_cls (by decide)) hIns (hex 7 rfl) (by intro c h; cases h)
    y_list := tyB_ok (nmOf_cls (by decide)) hIns (hex 8 rfl) (by intro c h; cases h)
    g_Tally := glo_ok X G (c.t.d.fact 34 (f := .glo "Tally") rfl)
    y_Tally := tyO_ok (nmOf_cls (by decide)) hIns (hex 9 rfl) (of_decide_eq_true (hex 10 rfl))
    mk_Tally := fun f h => by have q := mkr_ok (c.t.d.fact 35 (f := .mkr "Tally") rfl); have e := q.init.symm.trans h.at_; cases e; exact q
    g_Console := glo_ok X G (c.t.d.fact 36 (f := .glo "Console") rfl)
    y_Console := tyO_ok (nmOf_cls (by decide)) hIns (hex 11 rfl) (of_decide_eq_true (hex 12 rfl))
    mk_Console := fun f h => by have q := mkr_ok (c.t.d.fact 37 (f := .mkr "Console") rfl); have e := q.init.symm.trans h.at_; cases e; exact q
    cl := hcl
    f0 := rfl
    f1 := rfl
    f2 := rfl
    f3 := rfl
    f4 := rfl
    f5 := rfl
    f6 := rfl
    f7 := rfl
    fl := hfl
    nof := fun x hx hs => fld_nof hx hs
  }
theorem ecL_Barred (X : K.In h) (G : h.Ns mainGlobals mg) (c : SaysX faL fnL tsL tfL exL w h K) : Ec P w K mg base (nmL K) "Barred" 5 7 1 := by
  have hex : ∀ (i : Nat) {b : Bool}, (exs K)[i]? = some b → b = true := fun i b e => List.all_eq_true.mp c.more b (List.mem_of_getElem? e)
  obtain ⟨fd, F⟩ := c.t.d.def_ 45 rfl
  exact ec_of (st := mem (top 7) 0) (s1 := "self") (x1 := "reason") (hex 14 rfl) (glo_ok X G (c.t.d.fact 104 (f := .glo "Barred") rfl)) (meth_ok (c.t.d.fact 103 (f := .meth "Barred" "__init__") rfl)).at_ (of_decide_eq_true (hex 15 rfl)) F (noat_ok (c.t.d.fact 105 rfl)) rfl
    ⟨rfl, rfl, rfl, by decide +kernel, rfl, by decide +kernel, by decide +kernel⟩ (.inl rfl) (.inl rfl) rfl rfl rfl rfl (fun env he => by cases env; cases he; rfl) (F.bindsN fun _ _ _ _ _ _ us hl => match us, hl with | [_, _], _ => rfl)
theorem ecL_InvalidDeed (X : K.In h) (G : h.Ns mainGlobals mg) (c : SaysX faL fnL tsL tfL exL w h K) : Ec P w K mg base (nmL K) "InvalidDeed" 4 6 1 := by
  have hex : ∀ (i : Nat) {b : Bool}, (exs K)[i]? = some b → b = true := fun i b e => List.all_eq_true.mp c.more b (List.mem_of_getElem? e)
  obtain ⟨fd, F⟩ := c.t.d.def_ 46 rfl
  exact ec_of (st := mem (top 6) 0) (s1 := "self") (x1 := "index") (hex 16 rfl) (glo_ok X G (c.t.d.fact 107 (f := .glo "InvalidDeed") rfl)) (meth_ok (c.t.d.fact 106 (f := .meth "InvalidDeed" "__init__") rfl)).at_ (of_decide_eq_true (hex 17 rfl)) F (noat_ok (c.t.d.fact 108 rfl)) rfl
    ⟨rfl, rfl, rfl, by decide +kernel, rfl, by decide +kernel, by decide +kernel⟩ (.inl rfl) (.inl rfl) rfl rfl rfl rfl (fun env he => by cases env; cases he; rfl) (F.bindsN fun _ _ _ _ _ _ us hl => match us, hl with | [_, _], _ => rfl)
theorem ecL_InvalidLine (X : K.In h) (G : h.Ns mainGlobals mg) (c : SaysX faL fnL tsL tfL exL w h K) : Ec P w K mg base (nmL K) "InvalidLine" 2 5 1 := by
  have hex : ∀ (i : Nat) {b : Bool}, (exs K)[i]? = some b → b = true := fun i b e => List.all_eq_true.mp c.more b (List.mem_of_getElem? e)
  obtain ⟨fd, F⟩ := c.t.d.def_ 47 rfl
  exact ec_of (st := mem (top 4) 0) (s1 := "self") (x1 := "given") (hex 18 rfl) (glo_ok X G (c.t.d.fact 110 (f := .glo "InvalidLine") rfl)) (meth_ok (c.t.d.fact 109 (f := .meth "InvalidLine" "__init__") rfl)).at_ (of_decide_eq_true (hex 19 rfl)) F (noat_ok (c.t.d.fact 111 rfl)) rfl
    ⟨rfl, rfl, rfl, by decide +kernel, rfl, by decide +kernel, by decide +kernel⟩ (.inl rfl) (.inl rfl) rfl rfl rfl rfl (fun env he => by cases env; cases he; rfl) (F.bindsN fun _ _ _ _ _ _ us hl => match us, hl with | [_, _], _ => rfl)
theorem ecL_InvalidNumber (X : K.In h) (G : h.Ns mainGlobals mg) (c : SaysX faL fnL tsL tfL exL w h K) : Ec P w K mg base (nmL K) "InvalidNumber" 1 5 1 := by
  have hex : ∀ (i : Nat) {b : Bool}, (exs K)[i]? = some b → b = true := fun i b e => List.all_eq_true.mp c.more b (List.mem_of_getElem? e)
  obtain ⟨fd, F⟩ := c.t.d.def_ 48 rfl
  exact ec_of (st := mem (top 3) 0) (s1 := "self") (x1 := "given") (hex 20 rfl) (glo_ok X G (c.t.d.fact 113 (f := .glo "InvalidNumber") rfl)) (meth_ok (c.t.d.fact 112 (f := .meth "InvalidNumber" "__init__") rfl)).at_ (of_decide_eq_true (hex 21 rfl)) F (noat_ok (c.t.d.fact 114 rfl)) rfl
    ⟨rfl, rfl, rfl, by decide +kernel, rfl, by decide +kernel, by decide +kernel⟩ (.inl rfl) (.inl rfl) rfl rfl rfl rfl (fun env he => by cases env; cases he; rfl) (F.bindsN fun _ _ _ _ _ _ us hl => match us, hl with | [_, _], _ => rfl)
theorem ecL_NotATally (X : K.In h) (G : h.Ns mainGlobals mg) (c : SaysX faL fnL tsL tfL exL w h K) : Ec P w K mg base (nmL K) "NotATally" 3 5 1 := by
  have hex : ∀ (i : Nat) {b : Bool}, (exs K)[i]? = some b → b = true := fun i b e => List.all_eq_true.mp c.more b (List.mem_of_getElem? e)
  obtain ⟨fd, F⟩ := c.t.d.def_ 49 rfl
  exact ec_of (st := mem (top 5) 0) (s1 := "self") (x1 := "given") (hex 22 rfl) (glo_ok X G (c.t.d.fact 116 (f := .glo "NotATally") rfl)) (meth_ok (c.t.d.fact 115 (f := .meth "NotATally" "__init__") rfl)).at_ (of_decide_eq_true (hex 23 rfl)) F (noat_ok (c.t.d.fact 117 rfl)) rfl
    ⟨rfl, rfl, rfl, by decide +kernel, rfl, by decide +kernel, by decide +kernel⟩ (.inl rfl) (.inl rfl) rfl rfl rfl rfl (fun env he => by cases env; cases he; rfl) (F.bindsN fun _ _ _ _ _ _ us hl => match us, hl with | [_, _], _ => rfl)
theorem eoL_NothingToUndo (X : K.In h) (G : h.Ns mainGlobals mg) (c : SaysX faL fnL tsL tfL exL w h K) : Eo K mg (nmL K) "NothingToUndo" 6 :=
  eoB_ok (glo_ok X G (c.t.d.fact 101 (f := .glo "NothingToUndo") rfl)) (List.all_eq_true.mp c.more _ (List.mem_of_getElem? (show (exs K)[13]? = some (eoB K (ga K "NothingToUndo")) from rfl)))
theorem ldL__law_refusal (X : K.In h) (G : h.Ns mainGlobals mg) (c : SaysX faL fnL tsL tfL exL w h K) : LdT P w K mg base (nmL K) "_law_refusal" (refuF 2 3 5 "line" "tally") := by
  have hex : ∀ (i : Nat) {b : Bool}, (exs K)[i]? = some b → b = true := fun i b e => List.all_eq_true.mp c.more b (List.mem_of_getElem? e)
  obtain ⟨fd, F⟩ := c.t.d.def_ 44 rfl
  refine ⟨⟨_, fd, _, _, _, ["call", "caught", "e"], "call", _, F, glo_ok X G (c.t.d.fact 100 (f := .glo "_law_refusal") rfl), F.bindsN fun _ _ _ _ _ _ us hl => match us, hl with | [_], _ => rfl, ⟨rfl, rfl, rfl, by decide +kernel, rfl, by decide +kernel, by decide +kernel⟩, rfl, .inl rfl, rfl, rfl, fun X' cdv q hK hM => ?_, refuOk⟩, refu_nr⟩
  subst hK hM
  exact refu2_gives (a := "call") (b := "caught") (e := "e") (cx := "MarkError") (c1 := "InvalidLine") (c2 := "NotATally") (by decide) (by rfl) (by rfl) (by rfl) (by rfl) (by rfl) (by rfl) (glo_ok X G (c.t.d.fact 118 (f := .glo "MarkError") rfl)) (glo_ok X G (c.t.d.fact 110 (f := .glo "InvalidLine") rfl)) (glo_ok X G (c.t.d.fact 116 (f := .glo "NotATally") rfl)) (free_ok X G (c.t.d.fact 6 (f := .free "isinstance") rfl)) (by rfl) (by rfl) (by rfl) (by rfl) (by rfl) (by rfl) (by rfl)
    ⟨xfB_ok (hex 24 rfl), excCB_ok (hex 25 rfl), noat_ok (c.t.d.fact 111 rfl), exm_ok (c.t.d.fact 119 rfl)⟩
    ⟨xfB_ok (hex 26 rfl), excCB_ok (hex 27 rfl), noat_ok (c.t.d.fact 117 rfl), exm_ok (c.t.d.fact 120 rfl)⟩
    (of_decide_eq_true (hex 28 rfl)) (of_decide_eq_true (hex 29 rfl)) (of_decide_eq_true (hex 30 rfl)) (by intro _; rfl) (by intro _; rfl) (by intro _; rfl) (by intro _; rfl) (by intro _; rfl)
theorem nmT {p : Addr × Str} (hp : p ∈ (nmL K).T) : (cT K ("_law_right", none)) ∈ tfL.map (cT K) ∧ p.1 = (cT K ("_law_right", none)).2 := by
  simp only [nmL, nmOf, List.mem_cons, List.not_mem_nil, or_false] at hp
  rw [hp]
  exact ⟨List.mem_map_of_mem (show (("_law_right", none) : Defn) ∈ tfL from by decide), rfl⟩
theorem lawF (c : SaysX faL fnL tsL tfL exL w h K) : ∃ fd, FnQ K "law" "law" (top 88) (ga K "law") fd := c.t.d.def_ 43 rfl
theorem lawG (X : K.In h) (G : h.Ns mainGlobals mg) (c : SaysX faL fnL tsL tfL exL w h K) : mg ("law" : Str) = some (.ref (ga K "law")) := glo_ok X G (c.t.d.fact 99 (f := .glo "law") rfl)
theorem lawB {fd : FuncData} (F : FnQ K "law" "law" (top 88) (ga K "law") fd) (s : Shared) (u : Value) : BindsTo s fd ⟨[u], []⟩ [("script", u)] := (FunD.bindsA (ps := ["script"]) F fun _ _ _ _ _ _ us hl => match us, hl with | [_], _ => rfl) s [u] rfl
theorem lawL (X : K.In h) (G : h.Ns mainGlobals mg) (c : SaysX faL fnL tsL tfL exL w h K) {fd43 : FuncData} (F43 : FnQ K "law" "law" (top 88) (ga K "law") fd43) (TB : ∀ p ∈ tfL.map (cT K), LamX.TabB base mg p.1 p.2) : FnG true P w K mg base 14 (ga K "law") fd43 ["script"] (spD (nmL K) K 1 F_law) := by
  have m : Mo P w K mg base (nmL K) := moL X G c
  have h_Barred : Ec P w K mg base (nmL K) "Barred" 5 7 1 := ecL_Barred X G c
  have h_InvalidDeed : Ec P w K mg base (nmL K) "InvalidDeed" 4 6 1 := ecL_InvalidDeed X G c
  have h_InvalidLine : Ec P w K mg base (nmL K) "InvalidLine" 2 5 1 := ecL_InvalidLine X G c
  have h_InvalidNumber : Ec P w K mg base (nmL K) "InvalidNumber" 1 5 1 := ecL_InvalidNumber X G c
  have h_NotATally : Ec P w K mg base (nmL K) "NotATally" 3 5 1 := ecL_NotATally X G c
  have h__law_refusal := ldL__law_refusal (P := P) (base := base) X G c
  have h_NothingToUndo := eoL_NothingToUndo X G c
  have x_NothingToUndo : PySem.W.exmOne K (.ref ((nmL K).exc 6)) (.ref ((nmL K).exc 6)) = some true := exm_ok (c.t.d.fact 102 (f := .exm "NothingToUndo" "NothingToUndo" true) rfl)
  obtain ⟨fd0, F0⟩ := c.t.d.def_ 0 rfl
  have h__law_pool : Df false P w K mg base (nmL K) "_law_pool" 1 2 F__law_pool := q__law_pool m  F0 (glo_ok X G (c.t.d.fact 56 (f := .glo "_law_pool") rfl))
  obtain ⟨fd1, F1⟩ := c.t.d.def_ 1 rfl
  have h_check_tally : Df false P w K mg base (nmL K) "check_tally" 3 1 F_check_tally := q_check_tally m h_NotATally F1 (glo_ok X G (c.t.d.fact 57 (f := .glo "check_tally") rfl))
  obtain ⟨fd2, F2⟩ := c.t.d.def_ 2 rfl
  have h_is_whole : Df false P w K mg base (nmL K) "is_whole" 1 1 F_is_whole := q_is_whole m  F2 (glo_ok X G (c.t.d.fact 58 (f := .glo "is_whole") rfl))
  obtain ⟨fd3, F3⟩ := c.t.d.def_ 3 rfl
  have h_is_between : Df false P w K mg base (nmL K) "is_between" 2 3 F_is_between := q_is_between m h_is_whole F3 (glo_ok X G (c.t.d.fact 59 (f := .glo "is_between") rfl))
  obtain ⟨fd4, F4⟩ := c.t.d.def_ 4 rfl
  have h_is_marks : Df false P w K mg base (nmL K) "is_marks" 3 1 F_is_marks := q_is_marks m h_is_between F4 (glo_ok X G (c.t.d.fact 60 (f := .glo "is_marks") rfl))
  obtain ⟨fd5, F5⟩ := c.t.d.def_ 5 rfl
  have h_check_marks : Df false P w K mg base (nmL K) "check_marks" 4 1 F_check_marks := q_check_marks m h_is_marks h_InvalidNumber F5 (glo_ok X G (c.t.d.fact 61 (f := .glo "check_marks") rfl))
  obtain ⟨fd6, F6⟩ := c.t.d.def_ 6 rfl
  have h_rows_by : Df false P w K mg base (nmL K) "rows_by" 1 1 F_rows_by := q_rows_by m  F6 (glo_ok X G (c.t.d.fact 62 (f := .glo "rows_by") rfl))
  obtain ⟨fd7, F7⟩ := c.t.d.def_ 7 rfl
  have h_Tally___init__ : Dm false P w K mg base (nmL K) 0 "__init__" 5 2 F_Tally___init__ := q_Tally___init__ m h_check_marks h_rows_by F7 (meth_ok (c.t.d.fact 63 (f := .meth "Tally" "__init__") rfl))
  obtain ⟨fd8, F8⟩ := c.t.d.def_ 8 rfl
  have h_is_string : Df false P w K mg base (nmL K) "is_string" 1 1 F_is_string := q_is_string m  F8 (glo_ok X G (c.t.d.fact 64 (f := .glo "is_string") rfl))
  obtain ⟨fd9, F9⟩ := c.t.d.def_ 9 rfl
  have h_has_form : Df false P w K mg base (nmL K) "has_form" 2 1 F_has_form := q_has_form m h_is_string F9 (glo_ok X G (c.t.d.fact 65 (f := .glo "has_form") rfl))
  obtain ⟨fd10, F10⟩ := c.t.d.def_ 10 rfl
  have h_is_tuple_of : Df false P w K mg base (nmL K) "is_tuple_of" 1 2 F_is_tuple_of := q_is_tuple_of m  F10 (glo_ok X G (c.t.d.fact 66 (f := .glo "is_tuple_of") rfl))
  obtain ⟨fd11, F11⟩ := c.t.d.def_ 11 rfl
  have h_is_row : Df false P w K mg base (nmL K) "is_row" 3 2 F_is_row := q_is_row m h_is_between h_is_tuple_of F11 (glo_ok X G (c.t.d.fact 67 (f := .glo "is_row") rfl))
  obtain ⟨fd12, F12⟩ := c.t.d.def_ 12 rfl
  have h_check_deed : Df false P w K mg base (nmL K) "check_deed" 4 2 F_check_deed := q_check_deed m h_has_form h_InvalidDeed h_is_row F12 (glo_ok X G (c.t.d.fact 68 (f := .glo "check_deed") rfl))
  obtain ⟨fd13, F13⟩ := c.t.d.def_ 13 rfl
  have h_index_of : Df false P w K mg base (nmL K) "index_of" 1 1 F_index_of := q_index_of m  F13 (glo_ok X G (c.t.d.fact 69 (f := .glo "index_of") rfl))
  obtain ⟨fd14, F14⟩ := c.t.d.def_ 14 rfl
  have h_number_at : Df false P w K mg base (nmL K) "number_at" 2 2 F_number_at := q_number_at m h_index_of F14 (glo_ok X G (c.t.d.fact 70 (f := .glo "number_at") rfl))
  obtain ⟨fd15, F15⟩ := c.t.d.def_ 15 rfl
  have h_total_by : Df false P w K mg base (nmL K) "total_by" 1 1 F_total_by := q_total_by m  F15 (glo_ok X G (c.t.d.fact 71 (f := .glo "total_by") rfl))
  obtain ⟨fd16, F16⟩ := c.t.d.def_ 16 rfl
  have h_lots_by : Df false P w K mg base (nmL K) "lots_by" 2 1 F_lots_by := q_lots_by m h_rows_by F16 (glo_ok X G (c.t.d.fact 72 (f := .glo "lots_by") rfl))
  obtain ⟨fd17, F17⟩ := c.t.d.def_ 17 rfl
  have h_with_changed : Df false P w K mg base (nmL K) "with_changed" 1 2 F_with_changed := q_with_changed m  F17 (glo_ok X G (c.t.d.fact 73 (f := .glo "with_changed") rfl))
  obtain ⟨fd18, F18⟩ := c.t.d.def_ 18 rfl
  have h_is_rising_by : Df false P w K mg base (nmL K) "is_rising_by" 2 2 F_is_rising_by := q_is_rising_by m h_with_changed F18 (glo_ok X G (c.t.d.fact 74 (f := .glo "is_rising_by") rfl))
  obtain ⟨fd19, F19⟩ := c.t.d.def_ 19 rfl
  have h_rising_by : Df false P w K mg base (nmL K) "rising_by" 3 1 F_rising_by := q_rising_by m h_lots_by h_is_rising_by F19 (glo_ok X G (c.t.d.fact 75 (f := .glo "rising_by") rfl))
  obtain ⟨fd20, F20⟩ := c.t.d.def_ 20 rfl
  have h_marks_of : Df false P w K mg base (nmL K) "marks_of" 1 1 F_marks_of := q_marks_of m  F20 (glo_ok X G (c.t.d.fact 76 (f := .glo "marks_of") rfl))
  obtain ⟨fd21, F21⟩ := c.t.d.def_ 21 rfl
  have h_bar_by : Df false P w K mg base (nmL K) "bar_by" 4 1 F_bar_by := q_bar_by m h_total_by h_marks_of h_rising_by h_rows_by F21 (glo_ok X G (c.t.d.fact 77 (f := .glo "bar_by") rfl))
  obtain ⟨fd22, F22⟩ := c.t.d.def_ 22 rfl
  have h_helps_by : Df false P w K mg base (nmL K) "helps_by" 5 1 F_helps_by := q_helps_by m h_bar_by F22 (glo_ok X G (c.t.d.fact 78 (f := .glo "helps_by") rfl))
  obtain ⟨fd23, F23⟩ := c.t.d.def_ 23 rfl
  have h_with_more : Df false P w K mg base (nmL K) "with_more" 2 3 F_with_more := q_with_more m h_index_of F23 (glo_ok X G (c.t.d.fact 79 (f := .glo "with_more") rfl))
  obtain ⟨fd24, F24⟩ := c.t.d.def_ 24 rfl
  have h_reason_against : Df false P w K mg base (nmL K) "reason_against" 6 2 F_reason_against := q_reason_against m h_number_at h_with_more h_helps_by h_total_by F24 (glo_ok X G (c.t.d.fact 80 (f := .glo "reason_against") rfl))
  obtain ⟨fd25, F25⟩ := c.t.d.def_ 25 rfl
  have h_Tally_do : Dm false P w K mg base (nmL K) 0 "do" 7 2 F_Tally_do := q_Tally_do m h_check_deed h_reason_against h_Barred h_with_more F25 (meth_ok (c.t.d.fact 81 (f := .meth "Tally" "do") rfl))
  obtain ⟨fd26, F26⟩ := c.t.d.def_ 26 rfl
  have h_copy_of : Df false P w K mg base (nmL K) "copy_of" 8 1 F_copy_of := q_copy_of m h_Tally___init__ h_Tally_do F26 (glo_ok X G (c.t.d.fact 82 (f := .glo "copy_of") rfl))
  obtain ⟨fd27, F27⟩ := c.t.d.def_ 27 rfl
  have h_Console___init__ : Dm false P w K mg base (nmL K) 1 "__init__" 9 2 F_Console___init__ := q_Console___init__ m h_check_tally h_copy_of F27 (meth_ok (c.t.d.fact 83 (f := .meth "Console" "__init__") rfl))
  obtain ⟨fd28, F28⟩ := c.t.d.def_ 28 rfl
  have h_words_of : Df false P w K mg base (nmL K) "words_of" 1 1 F_words_of := q_words_of m  F28 (glo_ok X G (c.t.d.fact 84 (f := .glo "words_of") rfl))
  obtain ⟨fd29, F29⟩ := c.t.d.def_ 29 rfl
  have h_Tally_undo : Dm false P w K mg base (nmL K) 0 "undo" 1 1 F_Tally_undo := q_Tally_undo m h_NothingToUndo F29 (meth_ok (c.t.d.fact 85 (f := .meth "Tally" "undo") rfl))
  obtain ⟨fd30, F30⟩ := c.t.d.def_ 30 rfl
  have h_said_of_undo : Df false P w K mg base (nmL K) "said_of_undo" 2 1 F_said_of_undo := q_said_of_undo m h_Tally_undo h_NothingToUndo x_NothingToUndo F30 (glo_ok X G (c.t.d.fact 86 (f := .glo "said_of_undo") rfl))
  obtain ⟨fd31, F31⟩ := c.t.d.def_ 31 rfl
  have h_Tally_is_even : Dm false P w K mg base (nmL K) 0 "is_even" 1 1 F_Tally_is_even := q_Tally_is_even m  F31 (meth_ok (c.t.d.fact 87 (f := .meth "Tally" "is_even") rfl))
  obtain ⟨fd32, F32⟩ := c.t.d.def_ 32 rfl
  have h_are_alone_by : Df false P w K mg base (nmL K) "are_alone_by" 1 1 F_are_alone_by := q_are_alone_by m  F32 (glo_ok X G (c.t.d.fact 88 (f := .glo "are_alone_by") rfl))
  obtain ⟨fd33, F33⟩ := c.t.d.def_ 33 rfl
  have h_Tally_may_come : Dm false P w K mg base (nmL K) 0 "may_come" 1 1 F_Tally_may_come := q_Tally_may_come m  F33 (meth_ok (c.t.d.fact 89 (f := .meth "Tally" "may_come") rfl))
  obtain ⟨fd34, F34⟩ := c.t.d.def_ 34 rfl
  have h_said_of_word : Df false P w K mg base (nmL K) "said_of_word" 3 2 F_said_of_word := q_said_of_word m h_said_of_undo h_total_by h_Tally_is_even h_are_alone_by h_Tally_may_come F34 (glo_ok X G (c.t.d.fact 90 (f := .glo "said_of_word") rfl))
  obtain ⟨fd35, F35⟩ := c.t.d.def_ 35 rfl
  have h_row_in : Df false P w K mg base (nmL K) "row_in" 4 2 F_row_in := q_row_in m h_is_row F35 (glo_ok X G (c.t.d.fact 91 (f := .glo "row_in") rfl))
  obtain ⟨fd36, F36⟩ := c.t.d.def_ 36 rfl
  have h_is_made_of : Df false P w K mg base (nmL K) "is_made_of" 1 2 F_is_made_of := q_is_made_of m  F36 (glo_ok X G (c.t.d.fact 92 (f := .glo "is_made_of") rfl))
  obtain ⟨fd37, F37⟩ := c.t.d.def_ 37 rfl
  have h_number_in : Df false P w K mg base (nmL K) "number_in" 2 1 F_number_in := q_number_in m h_is_made_of F37 (glo_ok X G (c.t.d.fact 93 (f := .glo "number_in") rfl))
  obtain ⟨fd38, F38⟩ := c.t.d.def_ 38 rfl
  have h_said_of_chance : Df false P w K mg base (nmL K) "said_of_chance" 1 2 F_said_of_chance := q_said_of_chance m  F38 (glo_ok X G (c.t.d.fact 94 (f := .glo "said_of_chance") rfl))
  obtain ⟨fd39, F39⟩ := c.t.d.def_ 39 rfl
  have h_said_of_deed : Df false P w K mg base (nmL K) "said_of_deed" 8 2 F_said_of_deed := q_said_of_deed m h_Tally_do F39 (glo_ok X G (c.t.d.fact 95 (f := .glo "said_of_deed") rfl))
  obtain ⟨fd40, F40⟩ := c.t.d.def_ 40 rfl
  have h_said_of_two : Df false P w K mg base (nmL K) "said_of_two" 9 3 F_said_of_two := q_said_of_two m h_row_in h_said_of_deed h_number_at h_number_in h_said_of_chance F40 (glo_ok X G (c.t.d.fact 96 (f := .glo "said_of_two") rfl))
  obtain ⟨fd41, F41⟩ := c.t.d.def_ 41 rfl
  have h_Console_say : Dm false P w K mg base (nmL K) 1 "say" 10 2 F_Console_say := q_Console_say m h_is_string h_InvalidLine h_words_of h_said_of_word h_said_of_two F41 (meth_ok (c.t.d.fact 97 (f := .meth "Console" "say") rfl))
  obtain ⟨fd42, F42⟩ := c.t.d.def_ 42 rfl
  have h__law_right : Df true P w K mg base (nmL K) "_law_right" 13 2 F__law_right := q__law_right m h_Tally___init__ h_Console___init__ h_Console_say.up h_Console_say h__law_refusal h_Console___init__ (dmk_mk F41 (meth_ok (c.t.d.fact 97 (f := .meth "Console" "say") rfl)) (KwB.of F41 fun _ _ _ _ _ _ us ws l1 l2 => match us, ws, l1, l2 with | [_], [_], _, _ => rfl) (p_Console_say m h_is_string h_InvalidLine h_words_of h_said_of_word h_said_of_two F41).up) (dmk_mk F27 (meth_ok (c.t.d.fact 83 (f := .meth "Console" "__init__") rfl)) (KwB.of F27 fun _ _ _ _ _ _ us ws l1 l2 => match us, ws, l1, l2 with | [_], [_], _, _ => rfl) (p_Console___init__ m h_check_tally h_copy_of F27)) (lamC_of F42 (TB _ (List.mem_map_of_mem (show (("_law_right", none) : Defn) ∈ tfL from by decide))) (by first | exact List.mem_cons_self | exact List.mem_cons_of_mem _ List.mem_cons_self | exact List.mem_cons_of_mem _ (List.mem_cons_of_mem _ List.mem_cons_self)) (by intro p hp _; simp only [nmL, nmOf, List.mem_cons, List.not_mem_nil, or_false] at hp; rw [hp])) F42 (glo_ok X G (c.t.d.fact 98 (f := .glo "_law_right") rfl))
  exact q_law m h__law_pool.up h__law_right F43
end
end PM

open PySem PySem.W PySem.Calls PyProof.Rows
theorem PM.endL (law_math : ∀ ns : List Int, ns.length ≤ 63 → ∃ M', PM.F_law [.scr ns] [] = .ok (.bl true) M') : PySem.Challenge.rw_helpingmarks_k85_consoles_not_understood.Holds := by
  w_on; o_law
  refine HP.head_left (r := PM.RL) (q := PM.qL) (H := PM.hkL) (M := 60000) (loose := PM.nsL) (d := HandSHeadRun.topDef PM.RL.prog 88) (kwd := []) PM.leftH (by kernel_rfl) (by kernel_rfl) (by kernel_rfl) (by rfl) (by first | assumption | decide +kernel) (by decide +kernel) ⟨rfl, rfl, rfl, rfl, rfl, by decide +kernel⟩ ?hw ?hc
  case hw => w_witness2
  case hc =>
    refine PM.walk_gd (l := PySem.Challenge.rw_helpingmarks_k85_consoles_not_understood) (n := 63) (k := 14) (x := "script") rfl (by decide) (by kernel_rfl) ⟨rfl, by decide, by decide⟩ ?F (fun w H s e s' h => by obtain ⟨_, _, _, _, _, _, _, _, _, _, _, _, z⟩ := h; exact z)
    intro w mg fa h Y G hmg0
    obtain ⟨K, KX, c⟩ := Y
    have hmg : mg ("law" : PySem.Str) = some (.ref fa) := by
      have e : (HandSHeadRun.topDef PM.RL.prog 88).name = ("law" : PySem.Str) := by kernel_rfl
      rw [← e]
      exact hmg0
    have e := hmg.symm.trans (PM.lawG KX G c)
    cases e
    obtain ⟨fd, F⟩ := PM.lawF c
    refine ⟨K, fd, PM.tfL.map (He.cT K), PM.spD (PM.nmL K) K 1 PM.F_law, KX, ?_, ?_, ?_, PM.lawB F, ?_, fun base hB hN TB => PM.lawL KX G c F TB⟩
    · intro p hp
      obtain ⟨q, hq, e⟩ := List.mem_map.mp hp
      subst e
      exact c.empty q hq
    · intro p hp
      obtain ⟨q, hq, e⟩ := List.mem_map.mp hp
      subst e
      exact c.out q hq
    · intro p hp
      obtain ⟨q, hq, e⟩ := List.mem_map.mp hp
      subst e
      exact PySem.W.codeHd_of_K KX (c.hd q hq)
    · intro H a ns hl hT hS
      refine PM.spD_start (fun p hp => ?_) hS (law_math ns hl)
      rw [(PM.nmT hp).2]
      exact hT _ (PM.nmT hp).1

namespace PM
open PySem PySem.Spec PyProof.Rows L2

/-! ### parts, applied -/
section
variable {α β : Type} {e e' : Ev} {M M' : List MO} {d x y : D} {a b c : EF} {g h : AF} {t u : TF} {i j n m : Nat} {o p : Cop}
theorem bd_ok {a : α} {f : α → Ev → List MO → Out β} : (Out.ok a e M).bind f = f a e M := rfl
theorem bd_err {k : Nat} {v : Option (Nat × D)} {f : α → Ev → List MO → Out β} : (Out.err k v e M).bind f = .err k v e M := rfl
theorem bd_bad {f : α → Ev → List MO → Out β} : Out.bad.bind f = .bad := rfl
theorem bd_congr {x y : Out α} {f : α → Ev → List MO → Out β} (h : x = y) : x.bind f = y.bind f := by rw [h]
theorem lift_some {a : α} : lift (some a) e M = .ok a e M := rfl
theorem lift_none : lift (none : Option α) e M = .bad := rfl
theorem out_ok : (CO.ok d M).out e = .ok d e M := rfl
theorem out_err {k : Nat} {v : Option (Nat × D)} : (CO.err k v M).out e = .err k v e M := rfl
theorem out_bad : CO.bad.out e = .bad := rfl
theorem apC : eC d e M = .ok d e M := rfl
theorem apV : eV i e M = rdV i e M := rfl
theorem apB {o : Bop} : eB o a b e M = (a e M).bind fun x e M => (b e M).bind fun y e M => lift (bopD o x y) e M := rfl
theorem apNeg : eNeg a e M = (a e M).bind fun x e M => match x with | .int i => .ok (.int (-i)) e M | _ => .bad := rfl
theorem apNot : eNot a e M = (a e M).bind fun x e M => lift ((truthD x).map fun b => .bl (!b)) e M := rfl
theorem apQ : eQ o a b e M = (a e M).bind fun x e M => (b e M).bind fun y e M => lift ((cmpD o x y).map .bl) e M := rfl
theorem apCh : eCh o p a b c e M = (a e M).bind fun x e M => (b e M).bind fun y e M => (lift (cmpD o x y) e M).bind fun k e M => match k with
  | true => (c e M).bind fun z e M => lift ((cmpD p y z).map .bl) e M
  | false => .ok (.bl false) e M := rfl
theorem apAn : eAn a b e M = (a e M).bind fun x e M => match x with | .bl true => b e M | .bl false => .ok (.bl false) e M | _ => .bad := rfl
theorem apO : eO a b e M = (a e M).bind fun x e M => match x with | .bl true => .ok (.bl true) e M | .bl false => b e M | _ => .bad := rfl
theorem apI : eI t a b e M = (t e M).bind fun k e M => match k with | true => a e M | false => b e M := rfl
theorem apT : eT g e M = (g e M).bind fun ds e M => if ds.length ≤ lim then .ok (.tup ds) e M else .bad := rfl
theorem apL : eL g e M = (g e M).bind fun ds e M => if ds.length ≤ lim then .ok (.lst ds) e M else .bad := rfl
theorem apMl : eMl g e M = (g e M).bind fun ds e M => if ds.length ≤ lim then .ok (.ref M.length) e (M ++ [.lst ds]) else .bad := rfl
theorem apX : eX a b e M = (a e M).bind fun x e M => (b e M).bind fun y e M => lift (subD' x y M) e M := rfl
theorem apS {l h : OF} : eS a l h e M = (a e M).bind fun x e M => (l e M).bind fun l e M => (h e M).bind fun h e M => lift (sliceD x l h) e M := rfl
theorem apF : eF a i e M = (a e M).bind fun x e M => lift (fldD x i M) e M := rfl
theorem apBi {f : List D → Option D} : eBi f g e M = (g e M).bind fun ds e M => lift (f ds) e M := rfl
theorem apMt {f : Mt} {r : D → List D → Option D} : eMt f r a g e M = (a e M).bind fun x e M => if rcvB f x then (g e M).bind fun ds e M => lift (r x ds) e M else .bad := rfl
theorem apIs {t : Ty} : eIs a t e M = (a e M).bind fun x e M => lift ((isiD x t M).map .bl) e M := rfl
theorem apCa {f : CF} : eCa f g e M = (g e M).bind fun ds e M => (f ds M).out e := rfl
theorem apCa0 {f : CF} : eCa0 f e M = (f [] M).out e := rfl
theorem apMk {f : CF} : eMk f i g e M = (g e M).bind fun ds e M => mkF f i ds e M := rfl
theorem apMc {f : CF} : eMc i f a g e M = (a e M).bind fun x e M => if rcvD i x M then (g e M).bind fun ds e M => (f (x :: ds) M).out e else .bad := rfl
theorem apMc0 {f : CF} : eMc0 i f a e M = (a e M).bind fun x e M => if rcvD i x M then (f [x] M).out e else .bad := rfl
theorem apZ : eZ g e M = ((g e M).bind fun ds e M => lift (zipDs ds) e M).bind fun l e M => if l.length ≤ lim then .ok (.lst l) e M else .bad := rfl
theorem apIK {tb : Str → Option Int} : eIK tb a e M = (a e M).bind fun d e M => match d with | .str z => .ok (.bl (tb z).isSome) e M | _ => .bad := rfl
theorem apGK {tb : Str → Option Int} : eGK tb a e M = (a e M).bind fun d e M => match d with | .str z => lift ((tb z).map .int) e M | _ => .bad := rfl
theorem apGI {tb : List (Int × Int)} : eGI tb a e M = (a e M).bind fun d e M => match d with | .int z => lift ((tb.lookup z).map .int) e M | _ => .bad := rfl
theorem apLa {s : Str} : eLa i j s a e M = lamF (triedF i j s) a e M := rfl
theorem apE1 : tE1 a e M = (a e M).bind fun x e M => lift (truthD x) e M := rfl
theorem aptQ : tQ o a b e M = (a e M).bind fun x e M => (b e M).bind fun y e M => lift (cmpD o x y) e M := rfl
theorem apN : tN t e M = (t e M).bind fun b e M => .ok (!b) e M := rfl
theorem aptAn : tAn t u e M = (t e M).bind fun k e M => match k with | true => u e M | false => .ok false e M := rfl
theorem aptOr : tOr t u e M = (t e M).bind fun k e M => match k with | true => .ok true e M | false => u e M := rfl
theorem apcY : cY e M = .ok true e M := rfl
theorem apaN : aN e M = .ok [] e M := rfl
theorem apaC : aC a g e M = (a e M).bind fun d e M => (g e M).bind fun ds e M => .ok (d :: ds) e M := rfl
theorem apaS : aS a g e M = (a e M).bind fun d e M => (lift (seqD d) e M).bind fun xs e M => (g e M).bind fun ds e M => .ok (xs ++ ds) e M := rfl
theorem apoN : oN e M = .ok none e M := rfl
theorem apoS : oS a e M = (a e M).bind fun d e M => match d with | .int i => .ok (some i) e M | _ => .bad := rfl
theorem apiS : iS a e M = (a e M).bind fun d e M => lift (seqD d) e M := rfl
theorem apiR1 : iR1 g e M = (g e M).bind fun ds e M => lift (rngDs1 ds) e M := rfl
theorem apiR2 : iR2 g e M = (g e M).bind fun ds e M => lift (rngDs2 ds) e M := rfl
theorem apiZ : iZ g e M = (g e M).bind fun ds e M => lift (zipDs ds) e M := rfl
theorem apiE : iE g e M = (g e M).bind fun ds e M => lift (enmDs ds) e M := rfl
theorem apsN : sN e M = .ok .nx e M := rfl
theorem apnxt : nxt e M = .ok .nx e M := rfl
def Out.andThen (o : Out Fl) (r : SF) : Out Fl := match o with
  | .ok .nx e M => r e M
  | x => x
theorem th_nx {r : SF} : (Out.ok Fl.nx e M).andThen r = r e M := rfl
theorem th_rt {r : SF} : (Out.ok (Fl.rt d) e M).andThen r = .ok (.rt d) e M := rfl
theorem th_err {r : SF} {k : Nat} {v : Option (Nat × D)} : (Out.err k v e M).andThen r = .err k v e M := rfl
theorem th_congr {x y : Out Fl} {r : SF} (h : x = y) : x.andThen r = y.andThen r := by rw [h]
theorem apsC {s r : SF} : sC s r e M = (s e M).andThen r := by
  show seqF s r e M = _
  unfold seqF Out.andThen
  cases s e M with
  | ok a _ _ => cases a <;> rfl
  | _ => rfl
theorem apsE : sE' a e M = (a e M).bind fun d e M => .ok .nx e M := rfl
theorem apsA : sA i a e M = (a e M).bind fun d e M => .ok .nx (e.set i (.val d)) M := rfl
theorem apsOw : sOw i g e M = (g e M).bind fun ds e M => if ds.length ≤ lim then .ok .nx (e.set i (.own ds)) M else .bad := rfl
theorem apsR : sR a e M = (a e M).bind fun d e M => .ok (.rt d) e M := rfl
theorem apsRN : sRN e M = .ok (.rt .non) e M := rfl
theorem apsI {r s : SF} : sI t r s e M = (t e M).bind fun k e M => match k with | true => r e M | false => s e M := rfl
theorem apsFo {t : Tg} {b : SF} : sFo t g b e M = (g e M).bind fun ds e M => forL (turn t b) ds e M := rfl
theorem apsG {g : GF} : sG g a e M = (a e M).bind fun d e M => nxS (g d e M) := rfl
theorem apsFs : sFs b i a e M = (a e M).bind fun d e M => (b e M).bind fun x e M => match insOf x M with
  | some (j, c, fs) => if fs.length ≤ 100 then .ok .nx e (M.set j (.ins c (putD i d fs))) else .bad
  | none => .bad := rfl
theorem apsAp : sAp i a e M = if isOwnAt i e then (a e M).bind fun d e M => appF i d e M else .bad := rfl
theorem apsEx : sEx i a e M = if isOwnAt i e then (a e M).bind fun d e M => extF i d e M else .bad := rfl
theorem apsMa : sMa b a e M = (b e M).bind fun x e M => if isML x M then (a e M).bind fun d e M => mappF x d e M else .bad := rfl
theorem apsRa : sRa i j a e M = (a e M).bind fun d e M => .err i (some (j, d)) e M := rfl
theorem apgN : gN i d e M = .ok () (e.set i (.val d)) M := rfl
theorem apgS : gS a b d e M = (a e M).bind fun x e M => (b e M).bind fun y e M => putI x y d e M := rfl
theorem apgL0 : gL [] [] e M = .ok () e M := rfl
theorem apgL1 {g : GF} {l : List GF} {ds : List D} : gL (g :: l) (d :: ds) e M = (g d e M).bind fun _ e M => gL l ds e M := rfl
theorem apgT {l : List GF} : gT l d e M = unT l.length (gL l) d e M := rfl
theorem apUnT {f : List D → Ev → List MO → Out Unit} {xs : List D} : unT n f (.tup xs) e M = if xs.length = n then f xs e M else .bad := rfl
theorem nxS_ok : nxS (.ok () e M) = .ok .nx e M := rfl
theorem apCo {vs : List Nat} {tg : Tg} : eCo vs tg g t a e M = (g e M).bind fun xs e M => if xs.length ≤ lim then (cmpL (compF vs tg t a e) xs [] M).bind fun l _ M => .ok (.lst l) e M else .bad := rfl
theorem apCo2 {vs v1 : List Nat} {tg t1 : Tg} : eCo2 vs tg g v1 t1 h t a e M = (g e M).bind fun xs e M => (cmpL2 (comp2F vs tg h v1 t1 t a e) xs [] M).bind fun l _ M => .ok (.lst l) e M := rfl
/-- how a def's body ends -/
def Out.fin : Out Fl → CO
  | .ok .nx _ M' => .ok .non M'
  | .ok (.rt d) _ M' => .ok d M'
  | .err k fv _ M' => .err k fv M'
  | _ => .bad
theorem fin_nx : (Out.ok Fl.nx e M).fin = .ok .non M := rfl
theorem fin_rt : (Out.ok (Fl.rt d) e M).fin = .ok d M := rfl
theorem fin_err {k : Nat} {v : Option (Nat × D)} : (Out.err k v e M : Out Fl).fin = .err k v M := rfl
theorem apDef {b : SF} {ds : List D} (hd : ds.length = n) : defC n m b ds M = (b (ds.map .val ++ List.replicate m .non) M).fin := by
  unfold defC
  rw [if_pos hd]
  unfold Out.fin
  cases b (ds.map .val ++ List.replicate m .non) M with
  | ok a _ _ => cases a <;> rfl
  | _ => rfl
theorem rd_val (h : e[i]? = some (.val d)) : rdV i e M = .ok d e M := by unfold rdV; rw [h]
theorem rd_own {xs : List D} (h : e[i]? = some (.own xs)) : rdV i e M = .ok (.lst xs) (e.set i (.val (.lst xs))) M := by unfold rdV; rw [h]
theorem turn_nm {b : SF} {x : D} : turn (.nm i) b x e M = b (e.set i (.val x)) M := rfl
theorem turn_tp {b : SF} {x y : D} : turn (.tp [i, j]) b (.tup [x, y]) e M = b ((e.set i (.val x)).set j (.val y)) M := rfl
theorem comp_nm {vs : List Nat} : compF vs (.nm i) t a e x M = (noErr (t ((blkE vs e).set i (.val x)) M)).bind fun k e2 M => match k with
    | true => (noErr (a e2 M)).bind fun y e3 M => .ok (some y) e3 M
    | false => .ok none e2 M := rfl
theorem comp_tp {vs : List Nat} : compF vs (.tp [i, j]) t a e (.tup [x, y]) M = (noErr (t (((blkE vs e).set i (.val x)).set j (.val y)) M)).bind fun k e2 M => match k with
    | true => (noErr (a e2 M)).bind fun y e3 M => .ok (some y) e3 M
    | false => .ok none e2 M := rfl
theorem nE_ok {a : α} : noErr (.ok a e M) = .ok a e M := rfl
/-! loops -/
theorem forL_nil {f : D → SF} : forL f [] e M = .ok .nx e M := rfl
def Out.loop (o : Out Fl) (f : D → SF) (r : List D) : Out Fl := match o with
    | .ok .nx e M => forL f r e M
    | .ok .ct e M => forL f r e M
    | .ok .bk e M => .ok .nx e M
    | .ok (.rt d) e M => .ok (.rt d) e M
    | .err c v e M => .err c v e M
    | .bad => .bad
theorem forL_cons {f : D → SF} {r : List D} : forL f (x :: r) e M = (f x e M).loop f r := rfl
theorem loop_nx {f : D → SF} {r : List D} : (Out.ok Fl.nx e M).loop f r = forL f r e M := rfl
theorem loop_rt {f : D → SF} {r : List D} : (Out.ok (Fl.rt d) e M).loop f r = .ok (.rt d) e M := rfl
theorem loop_congr {f : D → SF} {r : List D} {x y : Out Fl} (h : x = y) : x.loop f r = y.loop f r := by rw [h]
/-- o gives a and leaves the store -/
def Gives {α : Type} (o : Out α) (a : α) (M : List MO) : Prop := match o with
  | .ok b _ N => b = a ∧ N = M
  | _ => False
theorem gives_ok {α : Type} {a b : α} : Gives (.ok b e M') a M ↔ b = a ∧ M' = M := Iff.rfl
theorem Gives.get {α : Type} {o : Out α} {a : α} (h : Gives o a M) : ∃ e, o = .ok a e M := by
  cases o with
  | ok b e N => obtain ⟨rfl, rfl⟩ := h; exact ⟨e, rfl⟩
  | err => exact h.elim
  | bad => exact h.elim
/-- o goes on, with something kept -/
def Goes (o : Out Fl) (P : Ev → List MO → Prop) : Prop := match o with
  | .ok .nx e M => P e M
  | _ => False
theorem goes_nx {P : Ev → List MO → Prop} : Goes (.ok .nx e M) P ↔ P e M := Iff.rfl
theorem Goes.get {o : Out Fl} {P : Ev → List MO → Prop} (h : Goes o P) : ∃ e M, o = .ok .nx e M ∧ P e M := by
  cases o with
  | ok b e N => cases b with
    | nx => exact ⟨e, N, rfl, h⟩
    | _ => exact h.elim
  | err => exact h.elim
  | bad => exact h.elim
/-- o gives r back, or goes on, with something kept -/
def Finds (o : Out Fl) (r : Option D) (M : List MO) (P : Ev → Prop) : Prop := match r, o with
  | some d, .ok (.rt d') _ N => d' = d ∧ N = M
  | none, .ok .nx e N => P e ∧ N = M
  | _, _ => False
theorem finds_rt {P : Ev → Prop} {d' : D} : Finds (.ok (.rt d') e M') (some d) M P ↔ d' = d ∧ M' = M := Iff.rfl
theorem finds_nx {P : Ev → Prop} : Finds (.ok .nx e M') none M P ↔ P e ∧ M' = M := Iff.rfl
theorem Finds.get {o : Out Fl} {P : Ev → Prop} {r : Option D} (h : Finds o r M P) : (∃ d e, r = some d ∧ o = .ok (.rt d) e M) ∨ (∃ e, r = none ∧ o = .ok .nx e M ∧ P e) := by
  cases r with
  | some d => cases o with
    | ok b e N => cases b with
      | rt d' => obtain ⟨rfl, rfl⟩ := h; exact .inl ⟨_, e, rfl, rfl⟩
      | _ => exact h.elim
    | err => exact h.elim
    | bad => exact h.elim
  | none => cases o with
    | ok b e N => cases b with
      | nx => obtain ⟨p, rfl⟩ := h; exact .inr ⟨e, rfl, rfl, p⟩
      | _ => exact h.elim
    | err => exact h.elim
    | bad => exact h.elim
/-- a loop that keeps something, of states too -/
theorem forL_keep {f : D → SF} (P : Ev → List MO → Prop) {ds : List D} (h : ∀ d ∈ ds, ∀ e M, P e M → Goes (f d e M) P) (h0 : P e M) : Goes (forL f ds e M) P := by
  induction ds generalizing e M with
  | nil => exact h0
  | cons d r ih =>
    obtain ⟨e1, M1, h2, h1⟩ := (h d List.mem_cons_self e M h0).get
    rw [forL_cons, h2]
    exact ih (fun d hd => h d (List.mem_cons_of_mem _ hd)) h1
/-- a loop by a list of anything: the state goes by steps -/
theorem forL_step {γ : Type} {f : D → SF} {r : γ → D} (P : List γ → Ev → List MO → Prop) {cs : List γ} (h : ∀ c l e M, P (c :: l) e M → Goes (f (r c) e M) (P l)) (h0 : P cs e M) : Goes (forL f (cs.map r) e M) (P []) := by
  induction cs generalizing e M with
  | nil => exact h0
  | cons d l ih =>
    obtain ⟨e1, M1, h2, h1⟩ := (h d l e M h0).get
    rw [List.map_cons, forL_cons, h2]
    exact ih h1
/-- a loop that looks for something and leaves the store -/
theorem forL_find {γ : Type} {f : D → SF} {r : γ → D} (P : Ev → Prop) (g : γ → Option D) {cs : List γ} (h : ∀ c ∈ cs, ∀ e, P e → Finds (f (r c) e M) (g c) M P) (h0 : P e) : Finds (forL f (cs.map r) e M) (cs.findSome? g) M P := by
  induction cs generalizing e with
  | nil => exact ⟨h0, rfl⟩
  | cons c l ih =>
    rw [List.findSome?_cons, List.map_cons, forL_cons]
    rcases (h c List.mem_cons_self e h0).get with ⟨d, e1, h1, h2⟩ | ⟨e1, h1, h2, p⟩
    · rw [h1, h2]
      exact ⟨rfl, rfl⟩
    · rw [h1, h2]
      exact ih (fun c hc => h c (List.mem_cons_of_mem _ hc)) p
theorem cmpL_map {γ : Type} {f : D → List MO → Out (Option D)} {g : γ → Option D} {r : γ → D} {cs : List γ} (h : ∀ c ∈ cs, Gives (f (r c) M) (g c) M) (acc : List D) : cmpL f (cs.map r) acc M = .ok (acc ++ cs.filterMap g) [] M := by
  induction cs generalizing acc with
  | nil => rw [List.filterMap_nil, List.append_nil]; rfl
  | cons c l ih =>
    obtain ⟨e, h1⟩ := (h c List.mem_cons_self).get
    rw [List.map_cons]
    show (f (r c) M).bind _ = _
    rw [h1, bd_ok, ih fun c hc => h c (List.mem_cons_of_mem _ hc)]
    cases q : g c with
    | none => rw [List.filterMap_cons_none q]
    | some d => rw [List.filterMap_cons_some q]; simp
theorem co_map {γ : Type} {vs : List Nat} {tg : Tg} {f : γ → Option D} {r : γ → D} {cs : List γ} (hg : g e M = .ok (cs.map r) e' M) (h : ∀ c ∈ cs, Gives (compF vs tg t a e' (r c) M) (f c) M) (hl : cs.length ≤ lim) : eCo vs tg g t a e M = .ok (.lst (cs.filterMap f)) e' M := by
  rw [apCo, hg, bd_ok, if_pos (by simpa using hl), cmpL_map h, bd_ok, List.nil_append]
theorem filterMap_some {γ δ : Type} (f : γ → δ) (cs : List γ) : cs.filterMap (fun c => some (f c)) = cs.map f := by
  rw [← List.filterMap_eq_map]; rfl
theorem filterMap_if {γ δ : Type} (p : γ → Bool) (f : γ → δ) (cs : List γ) : cs.filterMap (fun c => if p c then some (f c) else none) = (cs.filter p).map f := by
  induction cs with
  | nil => rfl
  | cons c l ih => cases q : p c <;> simp [List.filterMap_cons, List.filter_cons, q, ih]
end
/-! ### ints, rows -/
abbrev iD (l : List Int) : List D := l.map .int
def rD (l : List Int) : D := .tup (l.map .int)
def lD (l : List (List Int)) : D := .tup (l.map rD)
theorem intsD_i (l : List Int) : intsD (l.map .int) = some l := by
  induction l with
  | nil => rfl
  | cons a l ih => rw [List.map_cons, intsD, ih]; rfl
theorem blsD_b {γ : Type} (f : γ → Bool) (l : List γ) : blsD (l.map fun c => .bl (f c)) = some (l.map f) := by
  induction l with
  | nil => rfl
  | cons a l ih => rw [List.map_cons, blsD, ih]; rfl
theorem strsD_s {γ : Type} (f : γ → Str) (l : List γ) : strsD (l.map fun c => .str (f c)) = some (l.map f) := by
  induction l with
  | nil => rfl
  | cons a l ih => rw [List.map_cons, strsD, ih]; rfl
theorem intsD_f {γ : Type} (f : γ → Int) (l : List γ) : intsD (l.map fun c => .int (f c)) = some (l.map f) := by
  induction l with
  | nil => rfl
  | cons a l ih => rw [List.map_cons, intsD, ih]; rfl
theorem toPs_i (l : List Int) : toPs (l.map .int) = l.map .int := by
  induction l with
  | nil => rfl
  | cons a l ih => rw [List.map_cons, toPs, ih]; rfl
theorem eqvAll_i : ∀ a b : List Int, PyData.eqvAll (a.map .int) (b.map .int) = decide (a = b)
  | [], [] => by simp [PyData.eqvAll]
  | [], _ :: _ => by simp [PyData.eqvAll]
  | _ :: _, [] => by simp [PyData.eqvAll]
  | x :: a, y :: b => by
    have := eqvAll_i a b
    simp only [List.map_cons, PyData.eqvAll, PyData.eqv, this, List.cons.injEq]
    by_cases h : x = y <;> simp [h]
theorem eqD_int (i j : Int) : eqD (.int i) (.int j) = decide (i = j) := by
  simp only [eqD, D.toP, PyData.eqv]
  by_cases h : i = j <;> simp [h]
theorem eqD_r (a b : List Int) : eqD (rD a) (rD b) = decide (a = b) := by
  simp only [eqD, rD, D.toP, PyData.eqv, toPs_i, eqvAll_i]
theorem mem_r (a : List Int) (l : List (List Int)) : memD (rD a) (l.map rD) = decide (a ∈ l) := by
  unfold memD
  rw [List.any_map]
  induction l with
  | nil => simp
  | cons b l ih =>
    rw [List.any_cons, ih]
    simp only [Function.comp, eqD_r, List.mem_cons]
    by_cases h : b = a
    · subst h; simp
    · have : ¬ a = b := fun z => h z.symm
      simp [h, this]
theorem dat_i (l : List Int) : isDatas (l.map .int) = true := by
  induction l with
  | nil => rfl
  | cons a l ih => rw [List.map_cons, isDatas, ih]; rfl
theorem dep_i (l : List Int) : deps (l.map .int) = 0 := by
  induction l with
  | nil => rfl
  | cons a l ih => rw [List.map_cons, deps, ih]; rfl
theorem dat_r (l : List (List Int)) : isDatas (l.map rD) = true := by
  induction l with
  | nil => rfl
  | cons a l ih => rw [List.map_cons, isDatas, ih]; unfold rD; rw [D.isData, dat_i]; rfl
theorem dep_r (l : List (List Int)) : deps (l.map rD) ≤ 1 := by
  induction l with
  | nil => exact Nat.zero_le _
  | cons a l ih => rw [List.map_cons, deps]; unfold rD at ih ⊢; rw [D.dep, dep_i]; omega
theorem dat_l (l : List (List (List Int))) : isDatas (l.map lD) = true := by
  induction l with
  | nil => rfl
  | cons a l ih => rw [List.map_cons, isDatas, ih]; unfold lD; rw [D.isData, dat_r]; rfl
theorem dep_l (l : List (List (List Int))) : deps (l.map lD) ≤ 2 := by
  induction l with
  | nil => exact Nat.zero_le _
  | cons a l ih => rw [List.map_cons, deps]; unfold lD at ih ⊢; rw [D.dep]; have := dep_r a; omega
theorem fit_int (i : Int) : (D.int i).fit = true := rfl
theorem fit_r (a : List Int) : (rD a).fit = true := by
  unfold D.fit rD
  rw [D.isData, D.dep, dat_i, dep_i]; rfl
theorem fit_lst {l : List D} (h : isDatas l = true) (h2 : deps l ≤ 63) : (D.lst l).fit = true := by
  unfold D.fit
  rw [D.isData, D.dep, h]
  simp; omega
theorem fit_tup {l : List D} (h : isDatas l = true) (h2 : deps l ≤ 63) : (D.tup l).fit = true := by
  unfold D.fit
  rw [D.isData, D.dep, h]
  simp; omega
theorem in_lst (a : List Int) (l : List (List Int)) : inQ (rD a) (.lst (l.map rD)) = some (decide (a ∈ l)) := by
  have e : inQ (rD a) (.lst (l.map rD)) = (if (rD a).fit && (D.lst (l.map rD)).fit then some (memD (rD a) (l.map rD)) else none) := rfl
  rw [e, fit_r, fit_lst (dat_r l) (by have := dep_r l; omega), mem_r]; rfl
theorem in_tup (a : List Int) (l : List (List Int)) : inQ (rD a) (lD l) = some (decide (a ∈ l)) := by
  have e : inQ (rD a) (lD l) = (if (rD a).fit && (D.lst (l.map rD)).fit then some (memD (rD a) (l.map rD)) else none) := rfl
  rw [e, fit_r, fit_lst (dat_r l) (by have := dep_r l; omega), mem_r]; rfl
theorem eqQ_int (i j : Int) : eqQ (.int i) (.int j) = some (decide (i = j)) := by
  unfold eqQ
  rw [fit_int, fit_int, eqD_int]; rfl
theorem eqQ_r (a b : List Int) : eqQ (rD a) (rD b) = some (decide (a = b)) := by
  unfold eqQ
  rw [fit_r, fit_r, eqD_r]; rfl
theorem at_nat {γ : Type} (xs : List γ) (k : Nat) : atI xs (k : Int) = xs[k]? := by
  unfold atI ixN
  rw [if_pos (by omega)]
  by_cases h : k < xs.length
  · rw [if_pos (by omega)]; simp
  · rw [if_neg (by omega), List.getElem?_eq_none (by omega)]; rfl
theorem big_of {i : Int} (h : i.natAbs < 2 ^ 8000) : big i = false := by
  unfold big
  rw [decide_eq_true h]; rfl
theorem big_small {i : Int} (h1 : -1000000000000000000000 ≤ i) (h2 : i ≤ 1000000000000000000000) : big i = false := by
  apply big_of
  have : i.natAbs ≤ 1000000000000000000000 := by omega
  exact Nat.lt_of_le_of_lt this (by decide +kernel)
theorem mul_small {i j : Int} (h1 : -1000000000000000000000 ≤ i ∧ i ≤ 1000000000000000000000) (h2 : -1000000000000000000000 ≤ j ∧ j ≤ 1000000000000000000000) : mulD (.int i) (.int j) = some (.int (i * j)) := by
  show (if big i || big j then none else some (D.int (i * j))) = _
  rw [big_small h1.1 h1.2, big_small h2.1 h2.2]; rfl
/-- a table's number at a row -/
def lk : List (List Int) → List Int → List Int → Option Int
  | r :: rs, v :: vs, k => if r = k then some v else lk rs vs k
  | _, _, _ => none
theorem dicGet_lk : ∀ (rs : List (List Int)) (vs : List Int) (k : List Int), dicGet k rs (vs.map .int) = (lk rs vs k).map .int
  | [], _, _ => by simp [dicGet, lk]
  | _ :: _, [], _ => by simp [dicGet, lk]
  | r :: rs, v :: vs, k => by
    rw [List.map_cons, dicGet, lk]
    by_cases h : r = k
    · rw [if_pos h, if_pos h]; rfl
    · rw [if_neg h, if_neg h, dicGet_lk rs vs k]
end PM

namespace PM
open PySem PySem.Spec PyProof.Rows L2
/-! what follows a step is kept in a box, so that simp leaves it alone till its turn comes -/
class Box (γ : Type) where
  f : γ
section
variable {α β : Type} {a : α} {f : α → Ev → List MO → Out β} {e : Ev} {M : List MO} {k : Nat} {v : Option (Nat × D)} {d : D} {r : SF} {g : D → SF} {l : List D}
def bindI {α β : Type} (x : Out α) [b : Box (α → Ev → List MO → Out β)] : Out β := x.bind b.f
theorem bx_bd {x : Out α} : x.bind f = @bindI α β x ⟨f⟩ := rfl
theorem bi_ok : @bindI α β (.ok a e M) ⟨f⟩ = f a e M := rfl
theorem bi_err : @bindI α β (.err k v e M) ⟨f⟩ = .err k v e M := rfl
theorem bi_bad : @bindI α β .bad ⟨f⟩ = .bad := rfl
def thenI (x : Out Fl) [b : Box SF] : Out Fl := x.andThen b.f
theorem bx_th {x : Out Fl} : x.andThen r = @thenI x ⟨r⟩ := rfl
theorem ti_nx : @thenI (Out.ok Fl.nx e M) ⟨r⟩ = r e M := rfl
theorem ti_rt : @thenI (Out.ok (Fl.rt d) e M) ⟨r⟩ = .ok (.rt d) e M := rfl
theorem ti_err : @thenI (Out.err k v e M) ⟨r⟩ = .err k v e M := rfl
def loopI (x : Out Fl) [b : Box ((D → SF) × List D)] : Out Fl := x.loop b.f.1 b.f.2
theorem bx_lo {x : Out Fl} : x.loop g l = @loopI x ⟨(g, l)⟩ := rfl
theorem li_nx : @loopI (Out.ok Fl.nx e M) ⟨(g, l)⟩ = forL g l e M := rfl
theorem li_rt : @loopI (Out.ok (Fl.rt d) e M) ⟨(g, l)⟩ = .ok (.rt d) e M := rfl
end
section
variable {e e' : Ev} {M M' : List MO} {d x y : D} {i j n m : Nat}
def rdS (s : Option Sl) (i : Nat) (e : Ev) (M : List MO) : Out D := match s with
  | some (.val d) => .ok d e M
  | some (.own xs) => .ok (.lst xs) (e.set i (.val (.lst xs))) M
  | _ => .bad
theorem rdS_val : rdS (some (.val d)) i e M = .ok d e M := rfl
theorem rdS_own {xs : List D} : rdS (some (.own xs)) i e M = .ok (.lst xs) (e.set i (.val (.lst xs))) M := rfl
theorem apVs : eV i e M = rdS e[i]? i e M := rfl
theorem rdVs : rdV i e M = rdS e[i]? i e M := rfl
theorem seqD_lst {xs : List D} : seqD (.lst xs) = some xs := rfl
theorem seqD_tup {xs : List D} : seqD (.tup xs) = some xs := rfl
theorem sub_tup {xs : List D} {k : Int} : subD' (.tup xs) (.int k) M = atI xs k := rfl
theorem sub_lst {xs : List D} {k : Int} : subD' (.lst xs) (.int k) M = atI xs k := rfl
theorem sub_dic {ks : List (List Int)} {vs xs : List D} : subD' (.dic ks vs) (.tup xs) M = (intsD xs).bind fun k => dicGet k ks vs := rfl
theorem bop_add : bopD .add = addD := rfl
theorem bop_sub : bopD .sub = subD := rfl
theorem bop_mul : bopD .mul = mulD := rfl
theorem add_int {a b : Int} : addD (.int a) (.int b) = some (.int (a + b)) := rfl
theorem sub_int {a b : Int} : subD (.int a) (.int b) = some (.int (a - b)) := rfl
theorem cmp_eq : cmpD .eq x y = eqQ x y := rfl
theorem cmp_ne : cmpD .ne x y = (eqQ x y).map not := rfl
theorem cmp_lt {a b : Int} : cmpD .lt (.int a) (.int b) = some (decide (a < b)) := rfl
theorem cmp_le {a b : Int} : cmpD .le (.int a) (.int b) = some (decide (a ≤ b)) := rfl
theorem cmp_gt {a b : Int} : cmpD .gt (.int a) (.int b) = some (decide (b < a)) := rfl
theorem cmp_ge {a b : Int} : cmpD .ge (.int a) (.int b) = some (decide (b ≤ a)) := rfl
theorem cmp_in : cmpD .inn x y = inQ x y := rfl
theorem cmp_nin : cmpD .nin x y = (inQ x y).map not := rfl
theorem cmp_is : cmpD .is x y = isQ x y := rfl
theorem cmp_isn : cmpD .isn x y = (isQ x y).map not := rfl
theorem truth_bl {b : Bool} : truthD (.bl b) = some b := rfl
theorem sum_l {l : List Int} : sumB [.lst (l.map .int)] = some (.int l.sum) := by
  show ((intsD (l.map .int)).map List.sum).map D.int = _
  rw [intsD_i]; rfl
theorem sum_t {l : List Int} : sumB [.tup (l.map .int)] = some (.int l.sum) := by
  show ((intsD (l.map .int)).map List.sum).map D.int = _
  rw [intsD_i]; rfl
theorem sum_f {γ : Type} {f : γ → Int} {l : List γ} : sumB [.lst (l.map fun c => .int (f c))] = some (.int (l.map f).sum) := by
  show ((intsD (l.map fun c => .int (f c))).map List.sum).map D.int = _
  rw [intsD_f]; rfl
theorem len_l {l : List D} : lenB [.lst l] = some (.int l.length) := rfl
theorem len_t {l : List D} : lenB [.tup l] = some (.int l.length) := rfl
theorem omap {α β : Type} {a : α} {f : α → β} : Option.map f (some a) = some (f a) := rfl
theorem omap0 {α β : Type} {f : α → β} : Option.map f none = none := rfl
theorem obind0 {α β : Type} {f : α → Option β} : (none : Option α).bind f = none := rfl
theorem obind {α β : Type} {a : α} {f : α → Option β} : (some a).bind f = f a := rfl
end
end PM
namespace PM
section
variable {e e' : Ev} {M M' : List MO} {d x y : D} {i j n m : Nat} {xs ys : List D}
theorem zip_ll : zipDs [.lst xs, .lst ys] = some ((xs.zip ys).map fun p => .tup [p.1, p.2]) := rfl
theorem zip_lt : zipDs [.lst xs, .tup ys] = some ((xs.zip ys).map fun p => .tup [p.1, p.2]) := rfl
theorem zip_tl : zipDs [.tup xs, .lst ys] = some ((xs.zip ys).map fun p => .tup [p.1, p.2]) := rfl
theorem zip_tt : zipDs [.tup xs, .tup ys] = some ((xs.zip ys).map fun p => .tup [p.1, p.2]) := rfl
theorem enm_l : enmDs [.lst xs] = some (xs.zipIdx.map fun p => .tup [.int p.2, p.1]) := rfl
theorem rng1 {b : Nat} (h : b ≤ 1000000) : rngDs1 [.int b] = some ((List.range b).map fun i => .int i) := by
  show (if _ then _ else none) = _
  rw [if_pos (by simp; omega)]
  simp
theorem rng2 {a b : Nat} (ha : a ≤ 1000000) (h : b ≤ 1000000) : rngDs2 [.int a, .int b] = some ((List.range (b - a)).map fun i => .int ((a + i : Nat) : Int)) := by
  show (if _ then _ else none) = _
  rw [if_pos (by simp; omega)]
  have : ((b : Int) - (a : Int)).toNat = b - a := by omega
  rw [this]
  congr 1
theorem coE {γ : Type} {vs : List Nat} {tg : Tg} {g : AF} {t : TF} {a : EF} {f : γ → Option D} {r : γ → D} {cs : List γ} (hg : g e M = .ok (cs.map r) e M) (h : ∀ c ∈ cs, Gives (compF vs tg t a e (r c) M) (f c) M) (hl : cs.length ≤ lim) : eCo vs tg g t a e M = .ok (.lst (cs.filterMap f)) e M := co_map hg h hl
/-- all of them, each by a function -/
theorem coA {γ : Type} {vs : List Nat} {tg : Tg} {g : AF} {t : TF} {a : EF} {f : γ → D} {r : γ → D} {cs : List γ} (hg : g e M = .ok (cs.map r) e M) (h : ∀ c ∈ cs, Gives (compF vs tg t a e (r c) M) (some (f c)) M) (hl : cs.length ≤ lim) : eCo vs tg g t a e M = .ok (.lst (cs.map f)) e M := by
  rw [co_map hg h hl, filterMap_some]
/-- some of them -/
theorem coP {γ : Type} {vs : List Nat} {tg : Tg} {g : AF} {t : TF} {a : EF} (p : γ → Bool) {f : γ → D} {r : γ → D} {cs : List γ} (hg : g e M = .ok (cs.map r) e M) (h : ∀ c ∈ cs, Gives (compF vs tg t a e (r c) M) (if p c then some (f c) else none) M) (hl : cs.length ≤ lim) : eCo vs tg g t a e M = .ok (.lst ((cs.filter p).map f)) e M := by
  rw [co_map hg h hl, filterMap_if]
end
end PM
namespace PM
open PySem PySem.Spec PyProof.Rows L2
section
variable {M : List MO} {i j c f : Nat} {fs : List (Nat × D)} {xs : List D}
theorem ins_ref (h : M[i]? = some (.ins c fs)) : insOf (.ref i) M = some (i, c, fs) := by unfold insOf; simp only [h]
theorem fld_ref (h : M[i]? = some (.ins c fs)) : fldD (.ref i) f M = fs.lookup f := by
  show (insOf (.ref i) M).bind _ = _
  rw [ins_ref h]; rfl
theorem rcv_ref (h : M[i]? = some (.ins c fs)) (hl : fs.length ≤ 100) : rcvD c (.ref i) M = true := by
  unfold rcvD; rw [ins_ref h]; simp [hl]
theorem isML_ref (h : M[i]? = some (.lst xs)) : isML (.ref i) M = true := by unfold isML; simp only [h]
theorem mapp_ref {d : D} {e : Ev} (h : M[i]? = some (.lst xs)) (hl : xs.length < lim) : mappF (.ref i) d e M = .ok .nx e (M.set i (.lst (xs ++ [d]))) := by unfold mappF; simp only [h, if_pos hl]
theorem sub_ref {k : Int} (h : M[i]? = some (.lst xs)) : subD' (.ref i) (.int k) M = atI xs k := by unfold subD'; simp only [h]
theorem set_get {a : MO} (h : i < M.length) : (M.set i a)[i]? = some a := by simp [h]
theorem set_ne {a : MO} (h : j ≠ i) : (M.set j a)[i]? = M[i]? := List.getElem?_set_ne h
theorem lt_of_get {a : MO} (h : M[i]? = some a) : i < M.length := (List.getElem?_eq_some_iff.mp h).1
end
end PM
namespace PM
open PySem PySem.Spec PyProof.Rows L2
section
variable {M : List MO} {i j c f : Nat} {fs : List (Nat × D)} {xs : List D}
theorem put_ref {d : D} {e : Ev} {k : Int} {n : Nat} (h : M[i]? = some (.lst xs)) (hk : ixN xs.length k = some n) : putI (.ref i) (.int k) d e M = .ok () e (M.set i (.lst (xs.set n d))) := by unfold putI; simp only [h, hk]
theorem at_0 {γ : Type} {x : γ} {l : List γ} : atI (x :: l) 0 = some x := at_nat (x :: l) 0
theorem at_1 {γ : Type} {x y : γ} {l : List γ} : atI (x :: y :: l) 1 = some y := at_nat (x :: y :: l) 1
theorem at_2 {γ : Type} {x y z : γ} {l : List γ} : atI (x :: y :: z :: l) 2 = some z := at_nat (x :: y :: z :: l) 2
theorem mod_int {a b : Int} (h : 0 < b) : modD (.int a) (.int b) = some (.int (a % b)) := by unfold modD; simp [h]
theorem fdiv_int {a b : Int} (h : 0 < b) (h2 : b ≤ 1000000000000000000000) : fdivD (.int a) (.int b) = some (.int (a / b)) := by unfold fdivD; simp [h, big_small (by omega : -1000000000000000000000 ≤ b) h2]
theorem bop_mod : bopD .mod = modD := rfl
theorem bop_fdiv : bopD .fdiv = fdivD := rfl
theorem bop_pow : bopD .pow = powD := rfl
theorem divmod_int {a b : Int} (h : 0 < b) (h2 : b < 1073741824) : divmodB [.int a, .int b] = some (.tup [.int (a / b), .int (a % b)]) := by
  show (if _ then _ else none) = _
  rw [if_pos (by simp [h, h2])]
end
end PM
namespace PM
open PySem PySem.Spec PyProof.Rows L2
theorem abs_int {i : Int} : absB [.int i] = some (.int (if i < 0 then -i else i)) := rfl
theorem max_int {i j : Int} : maxB [.int i, .int j] = some (.int (if j > i then j else i)) := rfl
theorem min_int {i j : Int} : minB [.int i, .int j] = some (.int (if j < i then j else i)) := rfl
theorem cut_scr {xs : List Int} {lo hi : Option Int} : sliceD (.scr xs) lo hi = some (.lst ((cutD xs lo hi).map .int)) := rfl
theorem len_s {xs : List Int} : lenB [.scr xs] = some (.int xs.length) := rfl
theorem pw18 : powD (.int 10) (.int 18) = some (.int 1000000000000000000) := by kernel_rfl
theorem pw64 : powD (.int 10) (.int 64) = some (.int (10 ^ 64)) := by kernel_rfl
theorem ml64a : mulD (.int (10 ^ 64)) (.int (10 ^ 64)) = some (.int (10 ^ 128)) := by kernel_rfl
theorem ml64b : mulD (.int (10 ^ 128)) (.int (10 ^ 64)) = some (.int (10 ^ 192)) := by kernel_rfl
theorem ml64c : mulD (.int (10 ^ 192)) (.int (10 ^ 64)) = some (.int (10 ^ 256)) := by kernel_rfl
theorem ml64d : mulD (.int (10 ^ 256)) (.int (10 ^ 64)) = some (.int (10 ^ 320)) := by kernel_rfl
theorem ml64e : mulD (.int (10 ^ 320)) (.int (10 ^ 64)) = some (.int (10 ^ 384)) := by kernel_rfl
end PM
namespace PM
open PySem PySem.Spec PyProof.Rows L2
section
variable {e e' : Ev} {M M' : List MO}
theorem get_app {α : Type} {M : List α} {x : α} {l : List α} : (M ++ x :: l)[M.length]? = some x := by simp
theorem set_app {α : Type} {M : List α} {x y : α} {l : List α} : (M ++ x :: l).set M.length y = M ++ y :: l := by simp
theorem get_app1 {α : Type} {M : List α} {x y : α} {l : List α} : (M ++ x :: y :: l)[M.length + 1]? = some y := by
  rw [List.getElem?_append_right (by omega)]
  have : M.length + 1 - M.length = 1 := by omega
  rw [this]; rfl
/-- a comprehension with two for -/
theorem cmpL_acc {γ : Type} {f : D → List MO → Out (Option D)} {g : γ → Option D} {r : γ → D} {cs : List γ} (h : ∀ c ∈ cs, Gives (f (r c) M) (g c) M) (acc : List D) : cmpL f (cs.map r) acc M = .ok (acc ++ cs.filterMap g) [] M := cmpL_map h acc
theorem cmpL2_map {γ δ : Type} {vs v1 : List Nat} {tg t1 : Tg} {fi : AF} {c : TF} {f : EF} {r : γ → D} {s : δ → D} {cs : List γ} {ds : γ → List δ} {g : γ → δ → Option D} {en : γ → Ev} (he : ∀ x ∈ cs, setT tg (r x) (blkE vs e) = some (en x)) (hi : ∀ x ∈ cs, fi (en x) M = .ok ((ds x).map s) (en x) M)
    (h : ∀ x ∈ cs, ∀ y ∈ ds x, Gives (compF v1 t1 c f (en x) (s y) M) (g x y) M) (acc : List D) (hl : acc.length + (cs.map fun x => (ds x).length).sum ≤ lim) :
    cmpL2 (comp2F vs tg fi v1 t1 c f e) (cs.map r) acc M = .ok (acc ++ cs.flatMap fun x => (ds x).filterMap (g x)) [] M := by
  induction cs generalizing acc with
  | nil => simp [cmpL2]
  | cons x l ih =>
    have e1 : comp2F vs tg fi v1 t1 c f e (r x) acc M = .ok (acc ++ (ds x).filterMap (g x)) [] M := by
      unfold comp2F
      rw [he x List.mem_cons_self]
      simp only
      rw [hi x List.mem_cons_self, nE_ok, bd_ok, if_pos (by rw [List.length_map]; rw [List.map_cons, List.sum_cons] at hl; omega), cmpL_map fun y hy => h x List.mem_cons_self y hy]
    rw [List.map_cons]
    show (comp2F vs tg fi v1 t1 c f e (r x) acc M).bind _ = _
    rw [e1, bd_ok, ih (fun x hx => he x (List.mem_cons_of_mem _ hx)) (fun x hx => hi x (List.mem_cons_of_mem _ hx)) (fun x hx => h x (List.mem_cons_of_mem _ hx))]
    · rw [List.flatMap_cons, List.append_assoc]
    · have := List.length_filterMap_le (g x) (ds x)
      rw [List.map_cons, List.sum_cons] at hl
      rw [List.length_append]; omega
theorem co2_map {γ δ : Type} {vs v1 : List Nat} {tg t1 : Tg} {it fi : AF} {c : TF} {f : EF} {r : γ → D} {s : δ → D} {cs : List γ} {ds : γ → List δ} {g : γ → δ → Option D} (en : γ → Ev) (hg : it e M = .ok (cs.map r) e M) (he : ∀ x ∈ cs, setT tg (r x) (blkE vs e) = some (en x)) (hi : ∀ x ∈ cs, fi (en x) M = .ok ((ds x).map s) (en x) M)
    (h : ∀ x ∈ cs, ∀ y ∈ ds x, Gives (compF v1 t1 c f (en x) (s y) M) (g x y) M) (hl : (cs.map fun x => (ds x).length).sum ≤ lim) :
    eCo2 vs tg it v1 t1 fi c f e M = .ok (.lst (cs.flatMap fun x => (ds x).filterMap (g x))) e M := by
  rw [apCo2, hg, bd_ok, cmpL2_map he hi h [] (by simpa using hl), bd_ok, List.nil_append]
theorem eqQ_nil {l : List D} (h : isDatas l = true) (h2 : deps l ≤ 63) : eqQ (.lst l) (.lst []) = some l.isEmpty := by
  unfold eqQ
  rw [fit_lst h h2]
  cases l with
  | nil => rfl
  | cons a l => rfl
theorem dat_map {γ : Type} {f : γ → D} {l : List γ} (h : ∀ c ∈ l, (f c).isData = true) : isDatas (l.map f) = true := by
  induction l with
  | nil => rfl
  | cons a l ih => rw [List.map_cons, isDatas, h a List.mem_cons_self, ih fun c hc => h c (List.mem_cons_of_mem _ hc)]; rfl
theorem dep_map {γ : Type} {f : γ → D} {l : List γ} {k : Nat} (h : ∀ c ∈ l, (f c).dep ≤ k) : deps (l.map f) ≤ k := by
  induction l with
  | nil => exact Nat.zero_le _
  | cons a l ih =>
    rw [List.map_cons, deps]
    have := h a List.mem_cons_self
    have := ih fun c hc => h c (List.mem_cons_of_mem _ hc)
    omega
theorem rD_data (a : List Int) : (rD a).isData = true := by unfold rD; rw [D.isData, dat_i]
theorem rD_dep (a : List Int) : (rD a).dep ≤ 1 := by unfold rD; rw [D.dep, dep_i]; exact Nat.le_refl _
end
end PM

namespace PM
open PySem PySem.Spec PyProof.Rows L2
/-- a pool from which so many numbers at most were taken -/
def PoolAt (M : List MO) (p N : Nat) : Prop := ∃ a b c : Int, M[p]? = some (.lst [.int a, .int b, .int c]) ∧ 0 ≤ a ∧ 0 ≤ b ∧ b < 2147483399 ∧ 0 ≤ c ∧ c ≤ N
theorem pool_ok {M : List MO} {ns : List Int} {k : Nat} (hk : k ≤ 100) : ∃ o, F__law_pool [.scr ns, .int k] M = .ok (.ref M.length) (M ++ [o]) ∧ PoolAt (M ++ [o]) M.length 0 := by
  have m0 : mulD (.int 977) (.int k) = some (.int (977 * k)) := mul_small (by omega) (by omega)
  suffices H : ∃ a b, F__law_pool [.scr ns, .int k] M = .ok (.ref M.length) (M ++ [.lst [.int a, .int b, .int 0]]) ∧ 0 ≤ a ∧ 0 ≤ b ∧ b < 2147483399 by
    obtain ⟨a, b, h1, h2, h3, h4⟩ := H
    exact ⟨_, h1, a, b, 0, by simp, h2, h3, h4, by omega, by omega⟩
  rw [F__law_pool, apDef (by rfl), B__law_pool]
  simp only [↓bx_bd, bi_ok, bi_err, bi_bad, ↓bx_th, ti_nx, ti_rt, ti_err, ↓bx_lo, li_nx, li_rt, lift_some, lift_none, out_ok, out_err, out_bad, apC, apVs, rdVs, 
    rdS_val, rdS_own, apB, apNeg, apNot, apQ, apCh, apAn, apO, apI, apT, apL, apMl, apX, apS, apF, apBi, apMt, apIs, apCa, apCa0, apMk, apMc, apMc0, apZ, 
    apIK, apGK, apGI, apLa, apE1, aptQ, apN, aptAn, aptOr, apcY, apaN, apaC, apaS, apoN, apoS, apiS, apiR1, apiR2, apiZ, apiE, apsN, apnxt, apsC, apsE, 
    apsA, apsOw, apsR, apsRN, apsI, apsFo, apsG, apsFs, apsAp, apsEx, apsMa, apsRa, apgN, apgS, apgL0, apgL1, apgT, apUnT, nxS_ok, fin_nx, fin_rt, fin_err, 
    turn_nm, turn_tp, comp_nm, comp_tp, nE_ok, forL_nil, forL_cons, gives_ok, goes_nx, finds_rt, finds_nx, and_true, true_and, eq_self, List.map_cons, 
    List.map_nil, List.cons_append, List.nil_append, List.replicate_succ, List.replicate_zero, List.getElem?_cons_zero, List.getElem?_cons_succ, 
    List.set_cons_zero, List.set_cons_succ, List.length_cons, List.length_nil, lim, seqD_lst, seqD_tup, sub_tup, sub_lst, bop_add, bop_sub, bop_mul, 
    add_int, sub_int, cmp_eq, cmp_ne, cmp_lt, cmp_le, cmp_gt, cmp_ge, cmp_in, cmp_nin, cmp_is, cmp_isn, truth_bl, omap, obind, omap0, obind0, blkE, 
    List.foldr_cons, List.foldr_nil, isOwn, Bool.false_eq_true, ↓reduceIte, Nat.zero_add, Nat.reduceAdd, Nat.reduceLeDiff, Nat.reduceLT, Nat.reduceBEq, 
    Nat.reduceEqDiff, List.lookup, putD, triedF, Bool.not_true, Bool.not_false, cut_scr, sum_l, m0, bop_pow, bop_mod, pw64, ml64a, ml64b, ml64c, ml64d, ml64e]
  generalize hc : (cutD ns (some (k : Int)) (some ((k : Int) + 1))).sum = cell
  generalize hf : turn (.nm 5) _ = f
  have L := forL_keep (f := f) (M := M) (fun e M' => M' = M ∧ ∃ b x, e = [.val (.scr ns), .val (.int k), .val (.int cell), .val (.int b), .val (.int (10 ^ 384)), x] ∧ 0 ≤ b ∧ b < 2147483399) (ds := (cutD ns none (some 12)).map .int) ?_ ⟨rfl, 50021 + 977 * k, .non, rfl, by omega, by omega⟩
  · obtain ⟨e, M', h1, rfl, b, x, rfl, h2, h3⟩ := L.get
    rw [h1]
    by_cases q : cell < 0
    · refine ⟨(-cell) % 10 ^ 384, b, ?_, Int.emod_nonneg _ (by decide +kernel), h2, h3⟩
      simp only [↓bx_bd, bi_ok, bi_err, bi_bad, ↓bx_th, ti_nx, ti_rt, ti_err, ↓bx_lo, li_nx, li_rt, lift_some, lift_none, out_ok, out_err, out_bad, apC, apVs, rdVs, 
        rdS_val, rdS_own, apB, apNeg, apNot, apQ, apCh, apAn, apO, apI, apT, apL, apMl, apX, apS, apF, apBi, apMt, apIs, apCa, apCa0, apMk, apMc, apMc0, apZ, 
        apIK, apGK, apGI, apLa, apE1, aptQ, apN, aptAn, aptOr, apcY, apaN, apaC, apaS, apoN, apoS, apiS, apiR1, apiR2, apiZ, apiE, apsN, apnxt, apsC, apsE, 
        apsA, apsOw, apsR, apsRN, apsI, apsFo, apsG, apsFs, apsAp, apsEx, apsMa, apsRa, apgN, apgS, apgL0, apgL1, apgT, apUnT, nxS_ok, fin_nx, fin_rt, fin_err, 
        turn_nm, turn_tp, comp_nm, comp_tp, nE_ok, forL_nil, forL_cons, gives_ok, goes_nx, finds_rt, finds_nx, and_true, true_and, eq_self, List.map_cons, 
        List.map_nil, List.cons_append, List.nil_append, List.replicate_succ, List.replicate_zero, List.getElem?_cons_zero, List.getElem?_cons_succ, 
        List.set_cons_zero, List.set_cons_succ, List.length_cons, List.length_nil, lim, seqD_lst, seqD_tup, sub_tup, sub_lst, bop_add, bop_sub, bop_mul, 
        add_int, sub_int, cmp_eq, cmp_ne, cmp_lt, cmp_le, cmp_gt, cmp_ge, cmp_in, cmp_nin, cmp_is, cmp_isn, truth_bl, omap, obind, omap0, obind0, blkE, 
        List.foldr_cons, List.foldr_nil, isOwn, Bool.false_eq_true, ↓reduceIte, Nat.zero_add, Nat.reduceAdd, Nat.reduceLeDiff, Nat.reduceLT, Nat.reduceBEq, 
        Nat.reduceEqDiff, List.lookup, putD, triedF, Bool.not_true, Bool.not_false, q, decide_true, abs_int, bop_mod, mod_int (show (0 : Int) < 10 ^ 384 by decide +kernel)]
    · by_cases q2 : (1000000000000000000 : Int) ≤ cell
      · refine ⟨cell % 10 ^ 384, b, ?_, Int.emod_nonneg _ (by decide +kernel), h2, h3⟩
        simp only [↓bx_bd, bi_ok, bi_err, bi_bad, ↓bx_th, ti_nx, ti_rt, ti_err, ↓bx_lo, li_nx, li_rt, lift_some, lift_none, out_ok, out_err, out_bad, apC, apVs, rdVs, 
          rdS_val, rdS_own, apB, apNeg, apNot, apQ, apCh, apAn, apO, apI, apT, apL, apMl, apX, apS, apF, apBi, apMt, apIs, apCa, apCa0, apMk, apMc, apMc0, apZ, 
          apIK, apGK, apGI, apLa, apE1, aptQ, apN, aptAn, aptOr, apcY, apaN, apaC, apaS, apoN, apoS, apiS, apiR1, apiR2, apiZ, apiE, apsN, apnxt, apsC, apsE, 
          apsA, apsOw, apsR, apsRN, apsI, apsFo, apsG, apsFs, apsAp, apsEx, apsMa, apsRa, apgN, apgS, apgL0, apgL1, apgT, apUnT, nxS_ok, fin_nx, fin_rt, fin_err, 
          turn_nm, turn_tp, comp_nm, comp_tp, nE_ok, forL_nil, forL_cons, gives_ok, goes_nx, finds_rt, finds_nx, and_true, true_and, eq_self, List.map_cons, 
          List.map_nil, List.cons_append, List.nil_append, List.replicate_succ, List.replicate_zero, List.getElem?_cons_zero, List.getElem?_cons_succ, 
          List.set_cons_zero, List.set_cons_succ, List.length_cons, List.length_nil, lim, seqD_lst, seqD_tup, sub_tup, sub_lst, bop_add, bop_sub, bop_mul, 
          add_int, sub_int, cmp_eq, cmp_ne, cmp_lt, cmp_le, cmp_gt, cmp_ge, cmp_in, cmp_nin, cmp_is, cmp_isn, truth_bl, omap, obind, omap0, obind0, blkE, 
          List.foldr_cons, List.foldr_nil, isOwn, Bool.false_eq_true, ↓reduceIte, Nat.zero_add, Nat.reduceAdd, Nat.reduceLeDiff, Nat.reduceLT, Nat.reduceBEq, 
          Nat.reduceEqDiff, List.lookup, putD, triedF, Bool.not_true, Bool.not_false, q, q2, decide_true, decide_false, abs_int, bop_mod, bop_pow, pw18, mod_int (show (0 : Int) < 10 ^ 384 by decide +kernel)]
      · refine ⟨0, b, ?_, by decide, h2, h3⟩
        simp only [↓bx_bd, bi_ok, bi_err, bi_bad, ↓bx_th, ti_nx, ti_rt, ti_err, ↓bx_lo, li_nx, li_rt, lift_some, lift_none, out_ok, out_err, out_bad, apC, apVs, rdVs, 
          rdS_val, rdS_own, apB, apNeg, apNot, apQ, apCh, apAn, apO, apI, apT, apL, apMl, apX, apS, apF, apBi, apMt, apIs, apCa, apCa0, apMk, apMc, apMc0, apZ, 
          apIK, apGK, apGI, apLa, apE1, aptQ, apN, aptAn, aptOr, apcY, apaN, apaC, apaS, apoN, apoS, apiS, apiR1, apiR2, apiZ, apiE, apsN, apnxt, apsC, apsE, 
          apsA, apsOw, apsR, apsRN, apsI, apsFo, apsG, apsFs, apsAp, apsEx, apsMa, apsRa, apgN, apgS, apgL0, apgL1, apgT, apUnT, nxS_ok, fin_nx, fin_rt, fin_err, 
          turn_nm, turn_tp, comp_nm, comp_tp, nE_ok, forL_nil, forL_cons, gives_ok, goes_nx, finds_rt, finds_nx, and_true, true_and, eq_self, List.map_cons, 
          List.map_nil, List.cons_append, List.nil_append, List.replicate_succ, List.replicate_zero, List.getElem?_cons_zero, List.getElem?_cons_succ, 
          List.set_cons_zero, List.set_cons_succ, List.length_cons, List.length_nil, lim, seqD_lst, seqD_tup, sub_tup, sub_lst, bop_add, bop_sub, bop_mul, 
          add_int, sub_int, cmp_eq, cmp_ne, cmp_lt, cmp_le, cmp_gt, cmp_ge, cmp_in, cmp_nin, cmp_is, cmp_isn, truth_bl, omap, obind, omap0, obind0, blkE, 
          List.foldr_cons, List.foldr_nil, isOwn, Bool.false_eq_true, ↓reduceIte, Nat.zero_add, Nat.reduceAdd, Nat.reduceLeDiff, Nat.reduceLT, Nat.reduceBEq, 
          Nat.reduceEqDiff, List.lookup, putD, triedF, Bool.not_true, Bool.not_false, q, q2, decide_true, decide_false, bop_pow, pw18]
  · subst hf
    intro d hd e M' ⟨e1, b, x, e2, h2, h3⟩
    subst e1 e2
    obtain ⟨v, _, rfl⟩ := List.mem_map.mp hd
    have hv : 0 ≤ v % 2147483399 ∧ v % 2147483399 < 2147483399 := by omega
    have m1 : mulD (.int b) (.int 48271) = some (.int (b * 48271)) := mul_small (by omega) (by omega)
    have m2 : mulD (.int (v % 2147483399)) (.int 19) = some (.int (v % 2147483399 * 19)) := mul_small (by omega) (by omega)
    simp only [↓bx_bd, bi_ok, bi_err, bi_bad, ↓bx_th, ti_nx, ti_rt, ti_err, ↓bx_lo, li_nx, li_rt, lift_some, lift_none, out_ok, out_err, out_bad, apC, apVs, rdVs, 
      rdS_val, rdS_own, apB, apNeg, apNot, apQ, apCh, apAn, apO, apI, apT, apL, apMl, apX, apS, apF, apBi, apMt, apIs, apCa, apCa0, apMk, apMc, apMc0, apZ, 
      apIK, apGK, apGI, apLa, apE1, aptQ, apN, aptAn, aptOr, apcY, apaN, apaC, apaS, apoN, apoS, apiS, apiR1, apiR2, apiZ, apiE, apsN, apnxt, apsC, apsE, 
      apsA, apsOw, apsR, apsRN, apsI, apsFo, apsG, apsFs, apsAp, apsEx, apsMa, apsRa, apgN, apgS, apgL0, apgL1, apgT, apUnT, nxS_ok, fin_nx, fin_rt, fin_err, 
      turn_nm, turn_tp, comp_nm, comp_tp, nE_ok, forL_nil, forL_cons, gives_ok, goes_nx, finds_rt, finds_nx, and_true, true_and, eq_self, List.map_cons, 
      List.map_nil, List.cons_append, List.nil_append, List.replicate_succ, List.replicate_zero, List.getElem?_cons_zero, List.getElem?_cons_succ, 
      List.set_cons_zero, List.set_cons_succ, List.length_cons, List.length_nil, lim, seqD_lst, seqD_tup, sub_tup, sub_lst, bop_add, bop_sub, bop_mul, 
      add_int, sub_int, cmp_eq, cmp_ne, cmp_lt, cmp_le, cmp_gt, cmp_ge, cmp_in, cmp_nin, cmp_is, cmp_isn, truth_bl, omap, obind, omap0, obind0, blkE, 
      List.foldr_cons, List.foldr_nil, isOwn, Bool.false_eq_true, ↓reduceIte, Nat.zero_add, Nat.reduceAdd, Nat.reduceLeDiff, Nat.reduceLT, Nat.reduceBEq, 
      Nat.reduceEqDiff, List.lookup, putD, triedF, Bool.not_true, Bool.not_false, bop_mod, mod_int (show (0 : Int) < 2147483399 by decide), m1, m2]
    exact ⟨_, _, rfl, by omega, by omega⟩
end PM

namespace PM
open PySem PySem.Spec PyProof.Rows L2
def isTL (n : Nat) : CO → Bool | .ok (.bl true) M => M.length == n | _ => false
theorem isTL_ok {n : Nat} : ∀ {o : CO}, isTL n o = true → ∃ M', o = .ok (.bl true) M' ∧ M'.length = n
  | .ok (.bl true) M, h => ⟨M, rfl, by simpa [isTL] using h⟩
  | .ok (.bl false) _, h => by cases h
  | .ok .non _, h => by cases h
  | .ok (.int _) _, h => by cases h
  | .ok (.str _) _, h => by cases h
  | .ok (.tup _) _, h => by cases h
  | .ok (.lst _) _, h => by cases h
  | .ok (.ref _) _, h => by cases h
  | .err .., h => by cases h
  | .bad, h => by cases h
/-- a store of so many objects, whatever they are -/
def vec (n : Nat) (f : Nat → MO) : List MO := (List.range n).map f
theorem vec_of (M : List MO) : M = vec M.length (fun i => M[i]?.getD .dead) := by
  apply List.ext_getElem?
  intro i
  unfold vec
  rw [List.getElem?_map]
  by_cases h : i < M.length
  · rw [List.getElem?_range h, List.getElem?_eq_getElem h]; simp [List.getElem?_eq_getElem h]
  · rw [List.getElem?_eq_none (by omega), List.getElem?_eq_none (by rw [List.length_range]; omega)]; rfl
theorem rt {n m : Nat} (h : ∀ f j, isTL (n + 12) (F__law_right [.ref j, .int m] (vec n f)) = true) {M : List MO} {j : Nat} (hM : M.length = n) : ∃ M', F__law_right [.ref j, .int m] M = .ok (.bl true) M' ∧ M'.length = n + 12 := by
  subst hM
  rw [vec_of M]
  have := isTL_ok (h (fun i => M[i]?.getD .dead) j)
  simpa [← vec_of M] using this
theorem r1 : ∀ f j, isTL (1 + 12) (F__law_right [.ref j, .int (2 : Nat)] (vec 1 f)) = true := by intro f j; kernel_rfl
theorem r13 : ∀ f j, isTL (13 + 12) (F__law_right [.ref j, .int (3 : Nat)] (vec 13 f)) = true := by intro f j; kernel_rfl
theorem r25 : ∀ f j, isTL (25 + 12) (F__law_right [.ref j, .int (1 : Nat)] (vec 25 f)) = true := by intro f j; kernel_rfl
theorem r38 : ∀ f j, isTL (38 + 12) (F__law_right [.ref j, .int (2 : Nat)] (vec 38 f)) = true := by intro f j; kernel_rfl
theorem r50 : ∀ f j, isTL (50 + 12) (F__law_right [.ref j, .int (3 : Nat)] (vec 50 f)) = true := by intro f j; kernel_rfl
theorem r62 : ∀ f j, isTL (62 + 12) (F__law_right [.ref j, .int (1 : Nat)] (vec 62 f)) = true := by intro f j; kernel_rfl
theorem r75 : ∀ f j, isTL (75 + 12) (F__law_right [.ref j, .int (2 : Nat)] (vec 75 f)) = true := by intro f j; kernel_rfl
theorem r87 : ∀ f j, isTL (87 + 12) (F__law_right [.ref j, .int (3 : Nat)] (vec 87 f)) = true := by intro f j; kernel_rfl
theorem r99 : ∀ f j, isTL (99 + 12) (F__law_right [.ref j, .int (1 : Nat)] (vec 99 f)) = true := by intro f j; kernel_rfl
theorem three {M : List MO} {j t : Nat} (ht : t < 3) (hM : M.length = 37 * t + 1) : ∃ M1 M2 M3, F__law_right [.ref j, .int (2 : Nat)] M = .ok (.bl true) M1 ∧ F__law_right [.ref j, .int (3 : Nat)] M1 = .ok (.bl true) M2 ∧ F__law_right [.ref j, .int (1 : Nat)] M2 = .ok (.bl true) M3 ∧ M3.length = 37 * (t + 1) := by
  have h : t = 0 ∨ t = 1 ∨ t = 2 := by omega
  rcases h with rfl | rfl | rfl
  · obtain ⟨M1, h1, l1⟩ := rt r1 (j := j) hM
    obtain ⟨M2, h2, l2⟩ := rt r13 (j := j) l1
    obtain ⟨M3, h3, l3⟩ := rt r25 (j := j) l2
    exact ⟨M1, M2, M3, h1, h2, h3, l3⟩
  · obtain ⟨M1, h1, l1⟩ := rt r38 (j := j) hM
    obtain ⟨M2, h2, l2⟩ := rt r50 (j := j) l1
    obtain ⟨M3, h3, l3⟩ := rt r62 (j := j) l2
    exact ⟨M1, M2, M3, h1, h2, h3, l3⟩
  · obtain ⟨M1, h1, l1⟩ := rt r75 (j := j) hM
    obtain ⟨M2, h2, l2⟩ := rt r87 (j := j) l1
    obtain ⟨M3, h3, l3⟩ := rt r99 (j := j) l2
    exact ⟨M1, M2, M3, h1, h2, h3, l3⟩
/-- how many numbers of a script the law takes -/
theorem cnt_ok (ns : List Int) : ∃ n : Nat, n ≤ 3 ∧ (if (if (3 : Int) < (ns.length : Int) then (3 : Int) else (ns.length : Int)) > 2 then (if (3 : Int) < (ns.length : Int) then (3 : Int) else (ns.length : Int)) else 2) = (n : Int) := by
  by_cases h : (3 : Int) < (ns.length : Int)
  · exact ⟨3, by omega, by simp [h]⟩
  · by_cases h2 : (2 : Int) < (ns.length : Int)
    · exact ⟨ns.length, by omega, by simp [h]; omega⟩
    · exact ⟨2, by omega, by simp [h]; omega⟩
theorem law_math : ∀ ns : List Int, ns.length ≤ 63 → ∃ M', F_law [.scr ns] [] = .ok (.bl true) M' := by
  intro ns hns
  obtain ⟨n, hn, hne⟩ := cnt_ok ns
  rw [F_law, apDef (by rfl), B_law]
  simp only [↓bx_bd, bi_ok, bi_err, bi_bad, ↓bx_th, ti_nx, ti_rt, ti_err, ↓bx_lo, li_nx, li_rt, lift_some, lift_none, out_ok, out_err, out_bad, apC, apVs, rdVs, 
    rdS_val, rdS_own, apB, apNeg, apNot, apQ, apCh, apAn, apO, apI, apT, apL, apMl, apX, apS, apF, apBi, apMt, apIs, apCa, apCa0, apMk, apMc, apMc0, apZ, 
    apIK, apGK, apGI, apLa, apE1, aptQ, apN, aptAn, aptOr, apcY, apaN, apaC, apaS, apoN, apoS, apiS, apiR1, apiR2, apiZ, apiE, apsN, apnxt, apsC, apsE, 
    apsA, apsOw, apsR, apsRN, apsI, apsFo, apsG, apsFs, apsAp, apsEx, apsMa, apsRa, apgN, apgS, apgL0, apgL1, apgT, apUnT, nxS_ok, fin_nx, fin_rt, fin_err, 
    turn_nm, turn_tp, comp_nm, comp_tp, nE_ok, forL_nil, forL_cons, gives_ok, goes_nx, finds_rt, finds_nx, and_true, true_and, eq_self, List.map_cons, 
    List.map_nil, List.cons_append, List.nil_append, List.replicate_succ, List.replicate_zero, List.getElem?_cons_zero, List.getElem?_cons_succ, 
    List.set_cons_zero, List.set_cons_succ, List.length_cons, List.length_nil, lim, seqD_lst, seqD_tup, sub_tup, sub_lst, bop_add, bop_sub, bop_mul, 
    add_int, sub_int, cmp_eq, cmp_ne, cmp_lt, cmp_le, cmp_gt, cmp_ge, cmp_in, cmp_nin, cmp_is, cmp_isn, truth_bl, omap, obind, omap0, obind0, blkE, 
    List.foldr_cons, List.foldr_nil, isOwn, Bool.false_eq_true, ↓reduceIte, Nat.zero_add, Nat.reduceAdd, Nat.reduceLeDiff, Nat.reduceLT, Nat.reduceBEq, 
    Nat.reduceEqDiff, List.lookup, putD, triedF, Bool.not_true, Bool.not_false, len_s, min_int, max_int, hne, rng1 (show n ≤ 1000000 by omega)]
  generalize hf : turn (.nm 1) _ = f
  have L := forL_step (f := f) (M := []) (r := fun i : Nat => D.int i) (cs := List.range n) (fun l e M => ∃ t x y z, l.length + t = n ∧ (∀ c ∈ l, c < n) ∧ M.length = 37 * t ∧ e = [.val (.scr ns), x, y, z]) ?_ ⟨0, .non, .non, .non, by simp, fun c hc => List.mem_range.mp hc, rfl, rfl⟩
  · subst hf
    obtain ⟨e, M', h1, t, x, y, z, _, _, _, rfl⟩ := L.get
    refine ⟨M', ?_⟩
    simp only [↓bx_bd, bi_ok, bi_err, bi_bad, ↓bx_th, ti_nx, ti_rt, ti_err, ↓bx_lo, li_nx, li_rt, lift_some, lift_none, out_ok, out_err, out_bad, apC, apVs, rdVs, 
      rdS_val, rdS_own, apB, apNeg, apNot, apQ, apCh, apAn, apO, apI, apT, apL, apMl, apX, apS, apF, apBi, apMt, apIs, apCa, apCa0, apMk, apMc, apMc0, apZ, 
      apIK, apGK, apGI, apLa, apE1, aptQ, apN, aptAn, aptOr, apcY, apaN, apaC, apaS, apoN, apoS, apiS, apiR1, apiR2, apiZ, apiE, apsN, apnxt, apsC, apsE, 
      apsA, apsOw, apsR, apsRN, apsI, apsFo, apsG, apsFs, apsAp, apsEx, apsMa, apsRa, apgN, apgS, apgL0, apgL1, apgT, apUnT, nxS_ok, fin_nx, fin_rt, fin_err, 
      turn_nm, turn_tp, comp_nm, comp_tp, nE_ok, forL_nil, forL_cons, gives_ok, goes_nx, finds_rt, finds_nx, and_true, true_and, eq_self, List.map_cons, 
      List.map_nil, List.cons_append, List.nil_append, List.replicate_succ, List.replicate_zero, List.getElem?_cons_zero, List.getElem?_cons_succ, 
      List.set_cons_zero, List.set_cons_succ, List.length_cons, List.length_nil, lim, seqD_lst, seqD_tup, sub_tup, sub_lst, bop_add, bop_sub, bop_mul, 
      add_int, sub_int, cmp_eq, cmp_ne, cmp_lt, cmp_le, cmp_gt, cmp_ge, cmp_in, cmp_nin, cmp_is, cmp_isn, truth_bl, omap, obind, omap0, obind0, blkE, 
      List.foldr_cons, List.foldr_nil, isOwn, Bool.false_eq_true, ↓reduceIte, Nat.zero_add, Nat.reduceAdd, Nat.reduceLeDiff, Nat.reduceLT, Nat.reduceBEq, 
      Nat.reduceEqDiff, List.lookup, putD, triedF, Bool.not_true, Bool.not_false, h1]
  · subst hf
    rintro k l e M ⟨t, x, y, z, hl, hc, hM, rfl⟩
    rw [List.length_cons] at hl
    have hk := hc k List.mem_cons_self
    obtain ⟨o, h1, _⟩ := pool_ok (M := M) (ns := ns) (k := k) (by omega)
    simp only [↓bx_bd, bi_ok, bi_err, bi_bad, ↓bx_th, ti_nx, ti_rt, ti_err, ↓bx_lo, li_nx, li_rt, lift_some, lift_none, out_ok, out_err, out_bad, apC, apVs, rdVs, 
      rdS_val, rdS_own, apB, apNeg, apNot, apQ, apCh, apAn, apO, apI, apT, apL, apMl, apX, apS, apF, apBi, apMt, apIs, apCa, apCa0, apMk, apMc, apMc0, apZ, 
      apIK, apGK, apGI, apLa, apE1, aptQ, apN, aptAn, aptOr, apcY, apaN, apaC, apaS, apoN, apoS, apiS, apiR1, apiR2, apiZ, apiE, apsN, apnxt, apsC, apsE, 
      apsA, apsOw, apsR, apsRN, apsI, apsFo, apsG, apsFs, apsAp, apsEx, apsMa, apsRa, apgN, apgS, apgL0, apgL1, apgT, apUnT, nxS_ok, fin_nx, fin_rt, fin_err, 
      turn_nm, turn_tp, comp_nm, comp_tp, nE_ok, forL_nil, forL_cons, gives_ok, goes_nx, finds_rt, finds_nx, and_true, true_and, eq_self, List.map_cons, 
      List.map_nil, List.cons_append, List.nil_append, List.replicate_succ, List.replicate_zero, List.getElem?_cons_zero, List.getElem?_cons_succ, 
      List.set_cons_zero, List.set_cons_succ, List.length_cons, List.length_nil, lim, seqD_lst, seqD_tup, sub_tup, sub_lst, bop_add, bop_sub, bop_mul, 
      add_int, sub_int, cmp_eq, cmp_ne, cmp_lt, cmp_le, cmp_gt, cmp_ge, cmp_in, cmp_nin, cmp_is, cmp_isn, truth_bl, omap, obind, omap0, obind0, blkE, 
      List.foldr_cons, List.foldr_nil, isOwn, Bool.false_eq_true, ↓reduceIte, Nat.zero_add, Nat.reduceAdd, Nat.reduceLeDiff, Nat.reduceLT, Nat.reduceBEq, 
      Nat.reduceEqDiff, List.lookup, putD, triedF, Bool.not_true, Bool.not_false, h1]
    obtain ⟨M1, M2, M3, h3, h4, h5, h6⟩ := three (M := M ++ [o]) (j := M.length) (t := t) (by omega) (by simp [hM])
    have h3 : F__law_right [.ref M.length, .int 2] (M ++ [o]) = _ := h3
    have h4 : F__law_right [.ref M.length, .int 3] M1 = _ := h4
    have h5 : F__law_right [.ref M.length, .int 1] M2 = _ := h5
    simp only [↓bx_bd, bi_ok, bi_err, bi_bad, ↓bx_th, ti_nx, ti_rt, ti_err, ↓bx_lo, li_nx, li_rt, lift_some, lift_none, out_ok, out_err, out_bad, apC, apVs, rdVs, 
      rdS_val, rdS_own, apB, apNeg, apNot, apQ, apCh, apAn, apO, apI, apT, apL, apMl, apX, apS, apF, apBi, apMt, apIs, apCa, apCa0, apMk, apMc, apMc0, apZ, 
      apIK, apGK, apGI, apLa, apE1, aptQ, apN, aptAn, aptOr, apcY, apaN, apaC, apaS, apoN, apoS, apiS, apiR1, apiR2, apiZ, apiE, apsN, apnxt, apsC, apsE, 
      apsA, apsOw, apsR, apsRN, apsI, apsFo, apsG, apsFs, apsAp, apsEx, apsMa, apsRa, apgN, apgS, apgL0, apgL1, apgT, apUnT, nxS_ok, fin_nx, fin_rt, fin_err, 
      turn_nm, turn_tp, comp_nm, comp_tp, nE_ok, forL_nil, forL_cons, gives_ok, goes_nx, finds_rt, finds_nx, and_true, true_and, eq_self, List.map_cons, 
      List.map_nil, List.cons_append, List.nil_append, List.replicate_succ, List.replicate_zero, List.getElem?_cons_zero, List.getElem?_cons_succ, 
      List.set_cons_zero, List.set_cons_succ, List.length_cons, List.length_nil, lim, seqD_lst, seqD_tup, sub_tup, sub_lst, bop_add, bop_sub, bop_mul, 
      add_int, sub_int, cmp_eq, cmp_ne, cmp_lt, cmp_le, cmp_gt, cmp_ge, cmp_in, cmp_nin, cmp_is, cmp_isn, truth_bl, omap, obind, omap0, obind0, blkE, 
      List.foldr_cons, List.foldr_nil, isOwn, Bool.false_eq_true, ↓reduceIte, Nat.zero_add, Nat.reduceAdd, Nat.reduceLeDiff, Nat.reduceLT, Nat.reduceBEq, 
      Nat.reduceEqDiff, List.lookup, putD, triedF, Bool.not_true, Bool.not_false, h3, h4, h5]
    exact ⟨t + 1, _, _, _, by omega, fun c h => hc c (List.mem_cons_of_mem _ h), h6, rfl⟩
end PM

theorem PySem.Challenge.cw_helpingmarks_k85_consoles_not_understood_holds : PySem.Challenge.rw_helpingmarks_k85_consoles_not_understood.Holds :=
  PM.endL PM.law_math
