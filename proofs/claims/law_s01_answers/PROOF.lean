import PyProof.Rows.All
import Wide.All
import OpenK.AllK
import Wide.FinOn
import PyProof.EqAt
import PyProof.EqKinds
import PyProof.TupleCall
import Open.SpecLaws
import KE.OsGo
import KE.KExcInit
import KE.KExcPX
import KE.HD4
import HandS.ForMost
import HandS.ForSpec
import HandS.CallSlots
import HandS.ExcField
import HandS.SetFor
import HandS.Deep
import HandS.Zip
import HandS.Defaults
import HandS.HeadHook1
import HandS.HeadHook2
import HandS.HeadHook3
import HandS.HeadHook4
import PySem.Challenge.RW_knittexts_s01_answers
import VbktaaSpec
import HandS.Walk
import HandS.ExcInit
import KE.GoesMore
import PyFlatLaws
import PyVbktaa
set_option Elab.async false
set_option linter.all false
set_option maxRecDepth 100000
set_option maxHeartbeats 0
namespace Kn
open PySem PySem.Spec PyProof.Rows L2
/-! ### the head: what the top leaves, by kernel runs -/
def top (i : Nat) : Stmt := PySem.Challenge.pw_knittexts_s01_answers.main.body.getD i (.Pass ⟨0, 0, 0, 0⟩)
abbrev excTl : List Value := [.type "Exception", .type "BaseException", .type "object"]
abbrev R : PySem.W.OpenSpec := PySem.Challenge.rw_knittexts_s01_answers
def dF (x : Str) (i : Nat) : He.DefD := ⟨(x, none), x, x, defArgs (top i), defBody (top i), defScope (top i), [], []⟩
def dM (C m : Str) (i j : Nat) : He.DefD := ⟨(C, some m), m, C ++ "." ++ m, defArgs (inClass (top i) j), defBody (inClass (top i) j), defScope (inClass (top i) j), [], []⟩
def loose0 : List Str := ["BLANK", "PLUS", "MINUS", "MOST_DIGITS", "MOST_TERMS", "MOST_NUMBER", "signs_of", "is_digit", "is_letter", "parted", "number_of", "term_of", "terms_in", "form_of", "value_of", "signed", "form_shown", "is_one", "LINE_END", "STITCH", "ROUND", "FILL", "BLOCK", "STITCHES", "BARRED", "MOST_LETTERS", "MOST_LEAST", "MOST_STEP", "MOST_ROWS", "MOST_WORDS"]
def loose1 : List Str := ["MOST_NAME", "MOST_DEEP", "Wrong", "Pattern", "form_in", "stitch_of", "times_at", "item_at", "items_at", "row_items", "number_between", "read_size", "read_cast", "is_name", "read_row", "begin_block", "end_block", "read_off", "read_part", "read_line", "line_read", "read_lines", "read_pattern", "is_size", "MOST_STEPS", "USED", "MADE", "NO_ROW", "Gone", "Work"]
def loose2 : List Str := ["begin", "times_of", "knit_stitch", "knit_fill", "knit_items", "knit_row", "knit_parts", "knit_all", "knit", "joined", "line_of", "times_shown", "item_words", "row_line", "letter_line", "parts_shown", "pattern_shown", "count_words", "runs_of", "flat_row", "flat", "MOST_FLAT", "NUMBERS", "LISTS", "KNIT", "calls_of", "letters_in", "is_own_size", "put", "all_stitches"]
def loose3 : List Str := ["row_told", "told_of", "of_size", "form_told", "value_told", "found", "tried", "sizes_told", "of_pattern", "done"]
def loose : List Str := loose0 ++ loose1 ++ loose2 ++ loose3
def facts0 : List He.Fa := [.glo "signs_of", .glo "is_digit", .glo "is_letter", .glo "parted", .glo "number_of", .glo "term_of", .glo "terms_in", .glo "form_of", .glo "value_of", .glo "signed", .glo "form_shown", .glo "is_one", .glo "form_in", .glo "stitch_of", .glo "times_at", .glo "item_at", .glo "items_at", .glo "row_items", .glo "number_between", .glo "read_size", .glo "read_cast", .glo "is_name", .glo "read_row", .glo "begin_block", .glo "end_block", .glo "read_off", .glo "read_part", .glo "read_line", .glo "line_read", .glo "read_lines"]
def facts1 : List He.Fa := [.glo "read_pattern", .glo "is_size", .glo "begin", .glo "times_of", .glo "knit_stitch", .glo "knit_fill", .glo "knit_items", .glo "knit_row", .glo "knit_parts", .glo "knit_all", .glo "knit", .glo "joined", .glo "line_of", .glo "times_shown", .glo "item_words", .glo "row_line", .glo "letter_line", .glo "parts_shown", .glo "pattern_shown", .glo "count_words", .glo "runs_of", .glo "flat_row", .glo "flat", .glo "calls_of", .glo "letters_in", .glo "is_own_size", .glo "put", .glo "all_stitches", .glo "row_told", .glo "told_of"]
def facts2 : List He.Fa := [.glo "of_size", .glo "form_told", .glo "value_told", .glo "found", .glo "tried", .glo "sizes_told", .glo "of_pattern", .glo "done", .glo "answers", .glo "Wrong", .glo "Pattern", .glo "Gone", .glo "Work", .glo "STITCHES", .glo "BARRED", .glo "USED", .glo "MADE", .glo "NUMBERS", .glo "LISTS", .glo "KNIT", .free "ord", .free "len", .free "all", .free "any", .free "max", .free "min", .free "abs", .free "str", .free "list", .free "range"]
def facts3 : List He.Fa := [.free "zip", .free "enumerate", .int "BLANK" (32), .int "PLUS" (43), .int "MINUS" (45), .int "MOST_DIGITS" (4), .int "MOST_TERMS" (6), .int "MOST_NUMBER" (9999), .int "LINE_END" (10), .int "STITCH" (0), .int "ROUND" (1), .int "FILL" (2), .int "BLOCK" (-1), .int "MOST_LETTERS" (2), .int "MOST_LEAST" (1000), .int "MOST_STEP" (100), .int "MOST_ROWS" (20), .int "MOST_WORDS" (40), .int "MOST_NAME" (8), .int "MOST_DEEP" (3), .int "MOST_STEPS" (1500), .int "NO_ROW" (-1), .int "MOST_FLAT" (20), .cls "Pattern", .mkr "Pattern", .noat "Pattern" "letters", .noat "Pattern" "cast", .noat "Pattern" "rows", .noat "Pattern" "parts", .cls "Work"]
def facts4 : List He.Fa := [.mkr "Work", .noat "Work" "size", .noat "Work" "steps", .noat "Work" "row", .noat "Work" "left", .noat "Work" "fresh", .noat "Work" "stitches", .noat "Work" "done", .noat "Work" "widths", .meth "Pattern" "signs", .exm "Wrong" "Wrong" true, .exm "Gone" "Gone" true, .keep "Wrong", .keep "Gone", .noat "Wrong" "line", .noat "Wrong" "why", .noat "Gone" "why"]
def facts : List He.Fa := facts0 ++ facts1 ++ facts2 ++ facts3 ++ facts4
def fns0 : List He.DefD := [dF "signs_of" 7, dF "is_digit" 8, dF "is_letter" 9, dF "parted" 10, dF "number_of" 11, dF "term_of" 12, dF "terms_in" 13, dF "form_of" 14, dF "value_of" 15, dF "signed" 16, dF "form_shown" 17, dF "is_one" 18, dF "form_in" 36, dF "stitch_of" 37, dF "times_at" 38, dF "item_at" 39, dF "items_at" 40, dF "row_items" 41, dF "number_between" 42, dF "read_size" 43, dF "read_cast" 44, dF "is_name" 45, dF "read_row" 46, dF "begin_block" 47, dF "end_block" 48, dF "read_off" 49, dF "read_part" 50, dF "read_line" 51, dF "line_read" 52, dF "read_lines" 53]
def fns1 : List He.DefD := [dF "read_pattern" 54, dF "is_size" 55, dF "begin" 63, dF "times_of" 64, dF "knit_stitch" 65, dF "knit_fill" 66, dF "knit_items" 67, dF "knit_row" 68, dF "knit_parts" 69, dF "knit_all" 70, dF "knit" 71, dF "joined" 73, dF "line_of" 74, dF "times_shown" 75, dF "item_words" 76, dF "row_line" 77, dF "letter_line" 78, dF "parts_shown" 79, dF "pattern_shown" 80, dF "count_words" 81, dF "runs_of" 82, dF "flat_row" 83, dF "flat" 84, dF "calls_of" 90, dF "letters_in" 91, dF "is_own_size" 92, dF "put" 93, dF "all_stitches" 94, dF "row_told" 95, dF "told_of" 96]
def fns2 : List He.DefD := [dF "of_size" 97, dF "form_told" 98, dF "value_told" 99, dF "found" 100, dF "tried" 101, dF "sizes_told" 102, dF "of_pattern" 103, dF "done" 104, dF "answers" 105, dM "Wrong" "__init__" 34 0, dM "Pattern" "__init__" 35 0, dM "Pattern" "signs" 35 1, dM "Gone" "__init__" 61 0, dM "Work" "__init__" 62 0]
def fns : List He.DefD := fns0 ++ fns1 ++ fns2
def tup_STITCHES : List He.Dv := [.str "k", .str "p", .str "yo", .str "kt", .str "sk", .str "pt", .str "kf", .str "sl"]
def tup_BARRED : List He.Dv := [.int (107), .int (112)]
def tup_USED : List He.Dv := [.int (1), .int (1), .int (0), .int (2), .int (2), .int (2), .int (1), .int (1)]
def tup_MADE : List He.Dv := [.int (1), .int (1), .int (1), .int (1), .int (1), .int (1), .int (2), .int (1)]
def tup_NUMBERS : List He.Dv := [.int (0), .int (0), .int (0), .int (1), .int (0), .int (0), .int (0), .int (0), .int (0), .int (0), .int (0), .int (0), .int (0), .int (0)]
def tup_LISTS : List He.Dv := [.int (1), .int (0), .int (1), .int (1), .int (1), .int (1), .int (1), .int (1), .int (2), .int (1), .int (0), .int (1), .int (2), .int (0)]
def tup_KNIT : List He.Dv := [.int (2), .int (3), .int (4), .int (5), .int (6), .int (11)]
/-- an own exception class with an __init__ of its own -/
def excOne (K : PySem.W.Frag) (x : Str) : Bool := PySem.W.excInitIn K (He.ga K x) excTl "Exception.__new__" &&
  (decide (PySem.W.findIn K (.ref (He.ga K x)) "__init__" = some (some (.ref (He.ma K (He.ga K x) "__init__")))) &&
  (decide (PySem.W.typeIn K (.ref (He.ma K (He.ga K x) "__init__")) = some (.type "function")) &&
  (decide (PySem.W.findIn K (.ref (He.ga K x)) "__setattr__" = some (some (.builtin "object.__setattr__"))) &&
  (decide (PySem.W.subIn K (.ref (He.ga K x)) (.type "BaseException") = some true) &&
  (decide (PySem.W.typeIn K (.ref (He.ga K x)) = some (.type "type")) && (xfB K (He.ga K x) && PySem.W.excOver K (He.ga K x) excTl))))))
def more (K : PySem.W.Frag) : Bool := excOne K "Wrong" && (excOne K "Gone" && (He.tupB K "STITCHES" tup_STITCHES && (He.tupB K "BARRED" tup_BARRED && (He.tupB K "USED" tup_USED && (He.tupB K "MADE" tup_MADE && (He.tupB K "NUMBERS" tup_NUMBERS && (He.tupB K "LISTS" tup_LISTS && He.tupB K "KNIT" tup_KNIT)))))))
/-- what is looked at: the objects at these addresses -/
def hookR (as : List Addr) (fa : List He.Fa) (fn : List He.DefD) (ex : PySem.W.Frag → Bool) : PySem.W.Hook where
  α := He.AlD × Bool
  obs := fun s => (He.obsD fa fn (He.frG s.heap.get? as), ex (He.frG s.heap.get? as))
  val := fun _ => (He.valD fn, true)
  says := fun _ h => ∃ K : PySem.W.Frag, K.In h ∧ He.SaysD fa fn K ∧ ex K = true
  of := fun _ _ e => ⟨_, He.frG_in, congrArg (fun z : He.AlD × Bool => z.1) e, congrArg (fun z : He.AlD × Bool => z.2) e⟩
  keeps := fun _ _ _ ⟨K, hK, c⟩ k => ⟨K, PySem.W.Frag.In.keeps hK k, c⟩
def addrs : List Addr := 3 :: List.range' 4 900
abbrev hk : PySem.W.Hook := hookR addrs facts fns more
def obK (K : PySem.W.Frag) : He.AlD × Bool := (He.obsD facts fns K, more K)
def ob (s : PySem.W.SharedT) : He.AlD × Bool := obK (He.frG (HeadRun.getT s) addrs)
theorem ob_eq (s : PySem.W.SharedT) : ob s = hk.obs s.abs := by
  have e : HeadRun.getT s = s.abs.heap.get? := funext (HeadRun.getT_eq s)
  unfold ob
  rw [e]
  rfl
abbrev qv : Program := PySem.W.view R.prog [105]
open HeadRun PySem.W in
theorem runF (w : World) (os : OsState) : (endF (stepQ (denQ tabQ) R.prog w) 7200 R.prog w os).map ob = some (hk.val w) := by
  kernel_rfl
open HeadRun PySem.W in
theorem runL (w : World) (os : OsState) : (endF (stepQ (denQ tabQ) R.prog w) 7200 R.prog w os).map (fun s => looksF R.prog (boot_heap w.params) s.abs) = some true := by
  kernel_rfl
open HeadRun PySem.W in
theorem runS (w : World) (os : OsState) : (endF (stepQ (denQ tabQ) R.prog w) 7200 R.prog w os).map (fun s => seenQ qv loose (importedModules R.prog.main.body) (fun s => xlAt qv [] s && recOk [] s) s.abs) = some (openGood qv loose) := by
  kernel_rfl
theorem map_three {α β γ δ : Type} {o : Option α} {f : α → β} {g : α → γ} {h : α → δ} {b : β} {c : γ} {d : δ} (e1 : o.map f = some b) (e2 : o.map g = some c) (e3 : o.map h = some d) : o.map (fun s => (f s, g s, h s)) = some (b, c, d) := by
  cases o with
  | none => cases e1
  | some a =>
    rw [Option.map_some] at e1 e2 e3 ⊢
    rw [Option.some.inj e1, Option.some.inj e2, Option.some.inj e3]
theorem runAll (w : World) : HeadRun.RunEqS R qv hk ob 7200 loose w := fun os => map_three (runL w os) (runS w os) (runF w os)
section
open PySem.W PySem.Calls
def dAns : DefRec := HeadRun.topDef R.prog 105
theorem h_open : opening R.prog = plainProg R.prog.main.scope.names := by kernel_rfl
theorem h_fence (s : Shared) : fenceModules? R.prog s = some s := by kernel_rfl
theorem h_def : defOf qv R.name = some (dAns, []) := by kernel_rfl
theorem h_the : R.prog.theDef R.name = some (dAns.params, dAns.body, dAns.scope) := by kernel_rfl
theorem h_kw : kwWritten? dAns.params.kwonlyargs dAns.params.kw_defaults = some [] := by rfl
theorem h_well : R.wellSaid = true := by decide +kernel
theorem h_ok : (chainsOk qv && opensWell R.prog) = true := by decide +kernel
theorem h_bare : R.prog.bare := ⟨rfl, rfl, rfl, rfl, rfl, by decide +kernel⟩
theorem h_dfl : dAns.params.defaults = [] := by kernel_rfl
theorem h_name : dAns.name = ("answers" : PySem.Str) := by kernel_rfl
theorem h_room : Room 23 callerA := ⟨rfl, by decide, by decide⟩
theorem pre_one : ∃ args, R.pre args = true ∧ PySem.W.WData.layableAll args = true := ⟨[.list [.int 1]], by decide +kernel, by decide +kernel⟩
end
end Kn
namespace Kn
open Vbktaa

/-! ### texts parted -/
theorem splitAt_ne : ∀ (c : Nat) (l : List Nat), splitAt c l ≠ []
  | _, [] => by simp [splitAt]
  | c, x :: r => by
    unfold splitAt
    cases h : splitAt c r with
    | nil => simp
    | cons l m => by_cases e : x = c <;> simp [e]
theorem splitAt_cons {c x : Nat} {r : List Nat} {l : List Nat} {m : List (List Nat)} (h : splitAt c r = l :: m) : splitAt c (x :: r) = if x = c then [] :: (l :: m) else (x :: l) :: m := by
  rw [splitAt, h]
theorem splitAt_snoc {c x : Nat} : ∀ (l : List Nat) (i : List (List Nat)) (t : List Nat), splitAt c l = i ++ [t] → splitAt c (l ++ [x]) = if x = c then (i ++ [t]) ++ [[]] else i ++ [t ++ [x]]
  | [], i, t, h => by
    have h' : [([] : List Nat)] = i ++ [t] := h
    have hi : i = [] := by
      cases i with
      | nil => rfl
      | cons a i =>
        have := congrArg List.length h'
        simp at this
    subst hi
    have ht : t = [] := by simpa using h'.symm
    subst ht
    show splitAt c [x] = _
    rw [splitAt_cons (c := c) (x := x) (r := []) (l := []) (m := []) rfl]
    by_cases e : x = c <;> simp [e]
  | y :: r, i, t, h => by
    cases hr : splitAt c r with
    | nil => exact absurd hr (splitAt_ne c r)
    | cons l m =>
      rw [splitAt_cons hr] at h
      by_cases hy : y = c
      · rw [if_pos hy] at h
        cases i with
        | nil =>
          have := congrArg List.length h
          simp at this
        | cons a i =>
          obtain ⟨e1, e2⟩ := List.cons.inj (show [] :: (l :: m) = a :: (i ++ [t]) from h)
          have ih := splitAt_snoc (c := c) (x := x) r i t (hr.trans e2)
          subst e1
          by_cases e : x = c
          · rw [if_pos e] at ih ⊢
            have e3 : splitAt c (r ++ [x]) = l :: (m ++ [[]]) := by rw [ih, ← e2]; rfl
            show splitAt c (y :: (r ++ [x])) = _
            rw [splitAt_cons e3, if_pos hy, ← List.cons_append, e2]; rfl
          · rw [if_neg e] at ih ⊢
            cases hx : splitAt c (r ++ [x]) with
            | nil => exact absurd hx (splitAt_ne _ _)
            | cons l' m' =>
              show splitAt c (y :: (r ++ [x])) = _
              rw [splitAt_cons hx, if_pos hy, ← hx, ih]; rfl
      · rw [if_neg hy] at h
        cases i with
        | nil =>
          obtain ⟨e1, e2⟩ := List.cons.inj (show (y :: l) :: m = t :: [] from h)
          subst e1 e2
          have ih := splitAt_snoc (c := c) (x := x) r [] l hr
          by_cases e : x = c
          · rw [if_pos e] at ih ⊢
            show splitAt c (y :: (r ++ [x])) = _
            rw [splitAt_cons (show splitAt c (r ++ [x]) = l :: [[]] from ih), if_neg hy]; rfl
          · rw [if_neg e] at ih ⊢
            show splitAt c (y :: (r ++ [x])) = _
            rw [splitAt_cons (show splitAt c (r ++ [x]) = (l ++ [x]) :: [] from ih), if_neg hy]; rfl
        | cons a i =>
          obtain ⟨e1, e2⟩ := List.cons.inj (show (y :: l) :: m = a :: (i ++ [t]) from h)
          subst e1
          have ih := splitAt_snoc (c := c) (x := x) r (l :: i) t (by rw [hr, e2]; rfl)
          by_cases e : x = c
          · rw [if_pos e] at ih ⊢
            show splitAt c (y :: (r ++ [x])) = _
            rw [splitAt_cons (show splitAt c (r ++ [x]) = l :: (i ++ [t] ++ [[]]) from ih), if_neg hy]; rfl
          · rw [if_neg e] at ih ⊢
            show splitAt c (y :: (r ++ [x])) = _
            rw [splitAt_cons (show splitAt c (r ++ [x]) = l :: (i ++ [t ++ [x]]) from ih), if_neg hy]; rfl
theorem splitAt_init (c : Nat) (l : List Nat) : ∃ i t, splitAt c l = i ++ [t] := by
  have h := splitAt_ne c l
  exact ⟨(splitAt c l).dropLast, (splitAt c l).getLast h, (List.dropLast_concat_getLast h).symm⟩
/-- no piece holds the sign that parts -/
theorem splitAt_free {c : Nat} : ∀ (l : List Nat) (t : List Nat), t ∈ splitAt c l → c ∉ t
  | [], t, h => by
    have : t = [] := by simpa [splitAt] using h
    subst this; simp
  | x :: r, t, h => by
    cases hr : splitAt c r with
    | nil => exact absurd hr (splitAt_ne c r)
    | cons l m =>
      rw [splitAt_cons hr] at h
      have ih := fun t ht => splitAt_free (c := c) r t ht
      rw [hr] at ih
      by_cases hx : x = c
      · rw [if_pos hx] at h
        rcases List.mem_cons.mp h with e | h
        · subst e; simp
        · exact ih t h
      · rw [if_neg hx] at h
        rcases List.mem_cons.mp h with e | h
        · subst e
          intro hc
          rcases List.mem_cons.mp hc with e | hc
          · exact hx e.symm
          · exact ih l List.mem_cons_self hc
        · exact ih t (List.mem_cons_of_mem _ h)
theorem splitAt_mem {c : Nat} : ∀ (l : List Nat) (t : List Nat), t ∈ splitAt c l → ∀ x ∈ t, x ∈ l
  | [], t, h => by
    have : t = [] := by simpa [splitAt] using h
    subst this; simp
  | x :: r, t, h => by
    cases hr : splitAt c r with
    | nil => exact absurd hr (splitAt_ne c r)
    | cons l m =>
      rw [splitAt_cons hr] at h
      have ih := fun t ht => splitAt_mem (c := c) r t ht
      rw [hr] at ih
      intro y hy
      by_cases hx : x = c
      · rw [if_pos hx] at h
        rcases List.mem_cons.mp h with e | h
        · subst e; simp at hy
        · exact List.mem_cons_of_mem _ (ih t h y hy)
      · rw [if_neg hx] at h
        rcases List.mem_cons.mp h with e | h
        · subst e
          rcases List.mem_cons.mp hy with e | hy
          · exact e ▸ List.mem_cons_self
          · exact List.mem_cons_of_mem _ (ih l List.mem_cons_self y hy)
        · exact List.mem_cons_of_mem _ (ih t (List.mem_cons_of_mem _ h) y hy)
/-- all pieces and signs between are the text's signs -/
def total : List (List Nat) → Nat
  | [] => 0
  | t :: r => t.length + 1 + total r
theorem splitAt_total {c : Nat} : ∀ (l : List Nat), total (splitAt c l) = l.length + 1
  | [] => rfl
  | x :: r => by
    cases hr : splitAt c r with
    | nil => exact absurd hr (splitAt_ne c r)
    | cons l m =>
      have ih := splitAt_total (c := c) r
      rw [hr] at ih
      rw [splitAt_cons hr]
      by_cases hx : x = c
      · rw [if_pos hx]
        show 0 + 1 + total (l :: m) = _
        rw [ih, List.length_cons]; omega
      · rw [if_neg hx]
        show (l.length + 1) + 1 + total m = _
        have e : l.length + 1 + total m = r.length + 1 := ih
        rw [List.length_cons]; omega
theorem total_len : ∀ (l : List (List Nat)), l.length ≤ total l
  | [] => Nat.le_refl _
  | t :: r => by
    have := total_len r
    show r.length + 1 ≤ t.length + 1 + total r
    omega
theorem splitAt_len (c : Nat) (l : List Nat) : (splitAt c l).length ≤ l.length + 1 := by
  have h1 := total_len (splitAt c l)
  rw [splitAt_total] at h1
  exact h1
theorem mem_total : ∀ (l : List (List Nat)) (t : List Nat), t ∈ l → t.length + 1 ≤ total l
  | [], _, h => by cases h
  | u :: r, t, h => by
    show t.length + 1 ≤ u.length + 1 + total r
    rcases List.mem_cons.mp h with e | h
    · subst e; omega
    · have := mem_total r t h
      omega
theorem splitAt_mem_len {c : Nat} {l t : List Nat} (h : t ∈ splitAt c l) : t.length ≤ l.length := by
  have h1 := mem_total _ _ h
  rw [splitAt_total] at h1
  omega
end Kn
namespace Kn
open Vbktaa
/-! ### numbers -/
theorem num_snoc (w : List Nat) (c : Nat) : num (w ++ [c]) = 10 * num w + (c - 48) := by
  unfold num
  rw [List.foldl_append]; rfl
theorem digit_iff {c : Nat} : digit c = true ↔ 48 ≤ c ∧ c ≤ 57 := by
  unfold digit
  rw [Bool.and_eq_true, decide_eq_true_eq, decide_eq_true_eq]
theorem small_iff {c : Nat} : small c = true ↔ 97 ≤ c ∧ c ≤ 122 := by
  unfold small
  rw [Bool.and_eq_true, decide_eq_true_eq, decide_eq_true_eq]
/-- what number_of tells -/
def numI (w : List Nat) : Int := match natOf 4 w with
  | none => -1
  | some n => (n : Int)
theorem numI_bad {w : List Nat} (h : ¬ (1 ≤ w.length ∧ w.length ≤ 4 ∧ w.all digit = true)) : numI w = -1 := by
  have e : natOf 4 w = none := by
    unfold natOf
    rw [if_pos]
    by_cases h1 : w.isEmpty = true
    · exact .inl h1
    · by_cases h2 : 4 < w.length
      · exact .inr (.inl h2)
      · refine .inr (.inr (.inl ?_))
        have h3 : w.length ≠ 0 := fun z => h1 (by rw [List.isEmpty_iff]; exact List.eq_nil_of_length_eq_zero z)
        cases h4 : w.all digit with
        | false => rfl
        | true => exact absurd ⟨by omega, by omega, h4⟩ h
  unfold numI; rw [e]
theorem numI_zero {w : List Nat} (h1 : 1 < w.length) (h2 : w.head? = some 48) : numI w = -1 := by
  have e : natOf 4 w = none := by
    unfold natOf
    rw [if_pos (.inr (.inr (.inr ⟨h1, h2⟩)))]
  unfold numI; rw [e]
theorem numI_good {w : List Nat} (h : 1 ≤ w.length ∧ w.length ≤ 4 ∧ w.all digit = true) (h2 : ¬ (1 < w.length ∧ w.head? = some 48)) : numI w = (num w : Int) := by
  have e : natOf 4 w = some (num w) := by
    unfold natOf
    rw [if_neg]
    rintro (a | a | a | a)
    · rw [List.isEmpty_iff] at a; subst a; simp at h
    · omega
    · rw [h.2.2] at a; cases a
    · exact h2 a
  unfold numI; rw [e]
theorem num_lt : ∀ (w : List Nat), w.all digit = true → num w < 10 ^ w.length := by
  have key : ∀ (w : List Nat) (n k : Nat), w.all digit = true → n < 10 ^ k → w.foldl (fun n c => 10 * n + (c - 48)) n < 10 ^ (k + w.length) := by
    intro w
    induction w with
    | nil => intro n k _ h; simpa using h
    | cons c r ih =>
      intro n k h hn
      rw [List.all_cons, Bool.and_eq_true] at h
      have hc := digit_iff.mp h.1
      rw [List.foldl_cons]
      have := ih (10 * n + (c - 48)) (k + 1) h.2 (by rw [Nat.pow_succ]; omega)
      rw [List.length_cons]
      rw [show k + (r.length + 1) = k + 1 + r.length from by omega]
      exact this
  intro w h
  have := key w 0 0 h (by decide)
  rw [Nat.zero_add] at this
  exact this
theorem natOf_lt {w : List Nat} {n : Nat} (h : natOf 4 w = some n) : n ≤ 9999 := by
  unfold natOf at h
  by_cases c : w.isEmpty = true ∨ 4 < w.length ∨ w.all digit = false ∨ (1 < w.length ∧ w.head? = some 48)
  · rw [if_pos c] at h; cases h
  · rw [if_neg c] at h
    have e : num w = n := Option.some.inj h
    have hd : w.all digit = true := by
      cases z : w.all digit with
      | true => rfl
      | false => exact absurd (.inr (.inr (.inl z))) c
    have hl : w.length ≤ 4 := by
      by_cases z : 4 < w.length
      · exact absurd (.inr (.inl z)) c
      · omega
    have h1 := num_lt w hd
    have h2 : 10 ^ w.length ≤ 10 ^ 4 := Nat.pow_le_pow_right (by decide) hl
    rw [e] at h1
    have : (10 : Nat) ^ 4 = 10000 := by decide
    omega
theorem numI_range (w : List Nat) : -1 ≤ numI w ∧ numI w ≤ 9999 := by
  unfold numI
  cases h : natOf 4 w with
  | none => exact ⟨by decide, by decide⟩
  | some n =>
    have := natOf_lt h
    show (-1 : Int) ≤ (n : Int) ∧ (n : Int) ≤ 9999
    omega
/-! ### terms -/
/-- the letters as the specification has them -/
def lets (ls : List Nat) : List Text := ls.map fun c => [c]
/-- what term_of tells: the number, the place (-1: it is no term) -/
def termI (ls : List Nat) (t : Text) : Int × Int := match termOf (lets ls) t with
  | none => (0, -1)
  | some (n, none) => (n, 0)
  | some (n, some i) => (n, (i : Int) + 1)
theorem idx_go {ls : List Nat} {c : Nat} : (lets ls).findIdx (fun x => x == [c]) = ls.findIdx (fun x => x == c) := by
  unfold lets
  rw [List.findIdx_map]
  congr 1
  funext x
  show ([x] == [c]) = (x == c)
  by_cases e : x = c
  · subst e; simp
  · rw [beq_eq_false_iff_ne.mpr e]
    exact beq_eq_false_iff_ne.mpr fun z => e (List.cons.inj z).1
theorem idxOf_lets (ls : List Nat) (c : Nat) : idxOf (lets ls) [c] = if ls.findIdx (fun x => x == c) < ls.length then some (ls.findIdx fun x => x == c) else none := by
  show (if (lets ls).findIdx (fun x => x == [c]) < (lets ls).length then some ((lets ls).findIdx fun x => x == [c]) else none) = _
  rw [idx_go]
  have e : (lets ls).length = ls.length := by unfold lets; rw [List.length_map]
  rw [e]
theorem idx_notin {ls : List Nat} {c : Nat} (h : c ∉ ls) : idxOf (lets ls) [c] = none := by
  rw [idxOf_lets, if_neg]
  intro z
  obtain ⟨hh, e⟩ := List.findIdx_lt_length.mp z
  exact h (by rw [← beq_iff_eq.mp e.2]; exact e.1)
theorem idx_in {ls : List Nat} {c : Nat} (h : c ∈ ls) : ls.findIdx (fun x => x == c) < ls.length ∧ idxOf (lets ls) [c] = some (ls.findIdx fun x => x == c) := by
  have z : ls.findIdx (fun x => x == c) < ls.length := List.findIdx_lt_length.mpr ⟨c, h, beq_self_eq_true c⟩
  exact ⟨z, by rw [idxOf_lets, if_pos z]⟩
/-- letters are no digits -/
def Letters (ls : List Nat) : Prop := ∀ c ∈ ls, small c = true
theorem Letters.nodigit {ls : List Nat} (h : Letters ls) {c : Nat} (hc : c ∈ ls) : digit c = false := by
  have := small_iff.mp (h c hc)
  cases e : digit c with
  | false => rfl
  | true =>
    have := digit_iff.mp e
    omega
theorem getLast_some {t : List Nat} {c : Nat} (h : t.getLast? = some c) : t = t.dropLast ++ [c] := by
  cases t with
  | nil => cases h
  | cons a r =>
    have h1 : (a :: r).getLast (by simp) = c := by
      rw [List.getLast?_eq_some_getLast (by simp)] at h
      exact Option.some.inj h
    rw [← h1]
    exact (List.dropLast_concat_getLast _).symm
/-- the word is empty, or its last sign is no letter -/
theorem termI_plain {ls : List Nat} (hl : Letters ls) {t : Text} (h : t = [] ∨ ∃ c, t.getLast? = some c ∧ c ∉ ls) : termI ls t = (max 0 (numI t), min 0 (numI t)) := by
  have key : termOf (lets ls) t = (natOf 4 t).map fun n => ((n : Int), none) := by
    rcases h with h | ⟨c, h, hc⟩
    · subst h; rfl
    · unfold termOf
      rw [h]
      show (if digit c = true then _ else _) = _
      by_cases d : digit c = true
      · rw [if_pos d]
      · rw [if_neg d, idx_notin hc]
        have e : natOf 4 t = none := by
          unfold natOf
          rw [if_pos]
          refine .inr (.inr (.inl ?_))
          rw [getLast_some h, List.all_append]
          have : digit c = false := by simpa using d
          simp [this]
        rw [e]; rfl
  unfold termI numI
  rw [key]
  cases natOf 4 t with
  | none => rfl
  | some n =>
    show ((n : Int), (0 : Int)) = (max 0 (n : Int), min 0 (n : Int))
    have h1 : max 0 (n : Int) = n := by omega
    have h2 : min 0 (n : Int) = 0 := by omega
    rw [h1, h2]
theorem termI_letter {ls : List Nat} (hl : Letters ls) {t : Text} {c : Nat} (h : t.getLast? = some c) (hc : c ∈ ls) :
    termI ls t = if t.length = 1 then (1, (ls.findIdx (fun x => x == c) : Int) + 1) else if numI t.dropLast < 2 then (0, -1) else (numI t.dropLast, (ls.findIdx (fun x => x == c) : Int) + 1) := by
  have key : termOf (lets ls) t = if t.length = 1 then some (1, some (ls.findIdx fun x => x == c)) else (natOf 4 t.dropLast).bind fun n => if n < 2 then none else some ((n : Int), some (ls.findIdx fun x => x == c)) := by
    unfold termOf
    rw [h]
    show (if digit c = true then _ else _) = _
    rw [if_neg (by rw [hl.nodigit hc]; decide), (idx_in hc).2]
  unfold termI
  rw [key]
  by_cases h1 : t.length = 1
  · rw [if_pos h1, if_pos h1]
  · rw [if_neg h1, if_neg h1]
    unfold numI
    cases natOf 4 t.dropLast with
    | none => rfl
    | some n =>
      show (match (if n < 2 then none else some ((n : Int), some (ls.findIdx fun x => x == c)) : Option (Int × Option Nat)) with
        | none => (0, -1)
        | some (n, none) => (n, 0)
        | some (n, some i) => (n, (i : Int) + 1)) = if (n : Int) < 2 then (0, -1) else ((n : Int), (ls.findIdx (fun x => x == c) : Int) + 1)
      by_cases h2 : n < 2
      · rw [if_pos h2, if_pos (by omega)]
      · rw [if_neg h2, if_neg (by omega)]
/-- the place is within the form -/
theorem termI_place (ls : List Nat) (t : Text) : -1 ≤ (termI ls t).2 ∧ (termI ls t).2 ≤ ls.length ∧ 0 ≤ (termI ls t).1 ∧ (termI ls t).1 ≤ 9999 := by
  unfold termI
  cases h : termOf (lets ls) t with
  | none => exact ⟨by decide, by show (-1 : Int) ≤ _; omega, by decide, by decide⟩
  | some x =>
    unfold termOf at h
    cases hl : t.getLast? with
    | none => rw [hl] at h; cases h
    | some c =>
      rw [hl] at h
      by_cases d : digit c = true
      · have h2 : (natOf 4 t).map (fun n => ((n : Int), (none : Option Nat))) = some x := by
          have h3 : (if digit c = true then (natOf 4 t).map (fun n => ((n : Int), (none : Option Nat))) else _) = some x := h
          rw [if_pos d] at h3; exact h3
        cases hn : natOf 4 t with
        | none => rw [hn] at h2; cases h2
        | some n =>
          rw [hn] at h2
          have e : ((n : Int), (none : Option Nat)) = x := Option.some.inj h2
          subst e
          have := natOf_lt hn
          refine ⟨by show (-1 : Int) ≤ 0; decide, by show (0 : Int) ≤ _; omega, by show (0 : Int) ≤ (n : Int); omega, by show (n : Int) ≤ 9999; omega⟩
      · have h3 : (if digit c = true then (natOf 4 t).map (fun n => ((n : Int), (none : Option Nat))) else match idxOf (lets ls) [c] with
            | none => none
            | some i => if t.length = 1 then some (1, some i) else (natOf 4 t.dropLast).bind fun n => if n < 2 then none else some ((n : Int), some i)) = some x := h
        rw [if_neg d, idxOf_lets] at h3
        by_cases hi : ls.findIdx (fun x => x == c) < ls.length
        · rw [if_pos hi] at h3
          have h4 : (if t.length = 1 then some ((1 : Int), some (ls.findIdx fun x => x == c)) else (natOf 4 t.dropLast).bind fun n => if n < 2 then none else some ((n : Int), some (ls.findIdx fun x => x == c))) = some x := h3
          by_cases h1 : t.length = 1
          · rw [if_pos h1] at h4
            have e := Option.some.inj h4
            subst e
            refine ⟨?_, ?_, by show (0 : Int) ≤ 1; decide, by show (1 : Int) ≤ 9999; decide⟩
            · show (-1 : Int) ≤ (ls.findIdx (fun x => x == c) : Int) + 1; omega
            · show (ls.findIdx (fun x => x == c) : Int) + 1 ≤ _; omega
          · rw [if_neg h1] at h4
            cases hn : natOf 4 t.dropLast with
            | none => rw [hn] at h4; cases h4
            | some n =>
              rw [hn] at h4
              have h5 : (if n < 2 then none else some ((n : Int), some (ls.findIdx fun x => x == c))) = some x := h4
              by_cases h2 : n < 2
              · rw [if_pos h2] at h5; cases h5
              · rw [if_neg h2] at h5
                have e := Option.some.inj h5
                subst e
                have := natOf_lt hn
                refine ⟨?_, ?_, by show (0 : Int) ≤ (n : Int); omega, by show (n : Int) ≤ 9999; omega⟩
                · show (-1 : Int) ≤ (ls.findIdx (fun x => x == c) : Int) + 1; omega
                · show (ls.findIdx (fun x => x == c) : Int) + 1 ≤ _; omega
        · rw [if_neg hi] at h3; cases h3
/-! ### the terms of a word -/
theorem termsFrom_snoc {c : Nat} : ∀ (w acc : List Nat) (neg : Bool) (i : List (Bool × Text)) (s : Bool) (t : Text), termsFrom acc w neg = i ++ [(s, t)] →
    termsFrom acc (w ++ [c]) neg = if c = 43 then i ++ [(s, t)] ++ [(false, [])] else if c = 45 then i ++ [(s, t)] ++ [(true, [])] else i ++ [(s, t ++ [c])]
  | [], acc, neg, i, s, t, h => by
    have h' : [(neg, acc.reverse)] = i ++ [(s, t)] := h
    have hi : i = [] := by
      cases i with
      | nil => rfl
      | cons a i =>
        have := congrArg List.length h'
        simp at this
    subst hi
    have e : (neg, acc.reverse) = (s, t) := by simpa using h'
    obtain ⟨e1, e2⟩ := Prod.mk.inj e
    subst e1 e2
    show (if c = 43 then (neg, acc.reverse) :: termsFrom [] [] false else if c = 45 then (neg, acc.reverse) :: termsFrom [] [] true else termsFrom (c :: acc) [] neg) = _
    by_cases h1 : c = 43
    · rw [if_pos h1, if_pos h1]; rfl
    · rw [if_neg h1, if_neg h1]
      by_cases h2 : c = 45
      · rw [if_pos h2, if_pos h2]; rfl
      · rw [if_neg h2, if_neg h2]
        show [(neg, (c :: acc).reverse)] = _
        rw [List.reverse_cons]; rfl
  | x :: r, acc, neg, i, s, t, h => by
    have h' : (if x = 43 then (neg, acc.reverse) :: termsFrom [] r false else if x = 45 then (neg, acc.reverse) :: termsFrom [] r true else termsFrom (x :: acc) r neg) = i ++ [(s, t)] := h
    show (if x = 43 then (neg, acc.reverse) :: termsFrom [] (r ++ [c]) false else if x = 45 then (neg, acc.reverse) :: termsFrom [] (r ++ [c]) true else termsFrom (x :: acc) (r ++ [c]) neg) = _
    have step : ∀ (b : Bool), (neg, acc.reverse) :: termsFrom [] r b = i ++ [(s, t)] → (neg, acc.reverse) :: termsFrom [] (r ++ [c]) b = if c = 43 then i ++ [(s, t)] ++ [(false, [])] else if c = 45 then i ++ [(s, t)] ++ [(true, [])] else i ++ [(s, t ++ [c])] := by
      intro b hb
      cases i with
      | nil =>
        have e := (List.cons.inj (show (neg, acc.reverse) :: termsFrom [] r b = (s, t) :: [] from hb)).2
        exfalso
        have : ∀ (w acc : List Nat) (neg : Bool), termsFrom acc w neg ≠ [] := by
          intro w
          induction w with
          | nil => intro acc neg z; cases z
          | cons y w ih =>
            intro acc neg z
            unfold termsFrom at z
            by_cases h1 : y = 43
            · rw [if_pos h1] at z; cases z
            · rw [if_neg h1] at z
              by_cases h2 : y = 45
              · rw [if_pos h2] at z; cases z
              · rw [if_neg h2] at z
                exact ih _ _ z
        exact this _ _ _ e
      | cons a i =>
        obtain ⟨e1, e2⟩ := List.cons.inj (show (neg, acc.reverse) :: termsFrom [] r b = a :: (i ++ [(s, t)]) from hb)
        have ih := termsFrom_snoc (c := c) r [] b i s t e2
        rw [ih, e1]
        by_cases h1 : c = 43
        · rw [if_pos h1, if_pos h1]; rfl
        · rw [if_neg h1, if_neg h1]
          by_cases h2 : c = 45
          · rw [if_pos h2, if_pos h2]; rfl
          · rw [if_neg h2, if_neg h2]; rfl
    by_cases h1 : x = 43
    · rw [if_pos h1] at h' ⊢
      exact step _ h'
    · rw [if_neg h1] at h' ⊢
      by_cases h2 : x = 45
      · rw [if_pos h2] at h' ⊢
        exact step _ h'
      · rw [if_neg h2] at h' ⊢
        exact termsFrom_snoc r (x :: acc) neg i s t h'
theorem terms_minus (r : List Nat) : terms (45 :: r) = termsFrom [] r true := rfl
theorem terms_else {w : List Nat} (h : w.head? ≠ some 45) : terms w = termsFrom [] w false := by
  unfold terms
  split
  · exact absurd rfl h
  · rfl
theorem termsFrom_mem : ∀ (w acc : List Nat) (neg : Bool) (x : Bool × Text), x ∈ termsFrom acc w neg → ∀ c ∈ x.2, c ∈ acc ∨ c ∈ w
  | [], acc, neg, x, h => by
    have e : x = (neg, acc.reverse) := by simpa [termsFrom] using h
    subst e
    intro c hc
    exact .inl (by simpa using hc)
  | y :: r, acc, neg, x, h => by
    have h' : x ∈ (if y = 43 then (neg, acc.reverse) :: termsFrom [] r false else if y = 45 then (neg, acc.reverse) :: termsFrom [] r true else termsFrom (y :: acc) r neg) := h
    have step : ∀ b, x ∈ (neg, acc.reverse) :: termsFrom [] r b → ∀ c ∈ x.2, c ∈ acc ∨ c ∈ y :: r := by
      intro b hb c hc
      rcases List.mem_cons.mp hb with e | hb
      · subst e
        exact .inl (by simpa using hc)
      · rcases termsFrom_mem r [] b x hb c hc with z | z
        · cases z
        · exact .inr (List.mem_cons_of_mem _ z)
    by_cases h1 : y = 43
    · rw [if_pos h1] at h'; exact step _ h'
    · rw [if_neg h1] at h'
      by_cases h2 : y = 45
      · rw [if_pos h2] at h'; exact step _ h'
      · rw [if_neg h2] at h'
        intro c hc
        rcases termsFrom_mem r (y :: acc) neg x h' c hc with z | z
        · rcases List.mem_cons.mp z with e | z
          · exact .inr (e ▸ List.mem_cons_self)
          · exact .inl z
        · exact .inr (List.mem_cons_of_mem _ z)
theorem terms_mem {w : List Nat} {x : Bool × Text} (h : x ∈ terms w) : ∀ c ∈ x.2, c ∈ w := by
  intro c hc
  unfold terms at h
  split at h
  · rename_i r
    rcases termsFrom_mem _ _ _ _ h c hc with z | z
    · cases z
    · exact List.mem_cons_of_mem _ z
  · rcases termsFrom_mem _ _ _ _ h c hc with z | z
    · cases z
    · exact z
theorem termsFrom_len : ∀ (w acc : List Nat) (neg : Bool), (termsFrom acc w neg).length ≤ w.length + 1
  | [], acc, neg => Nat.le_refl _
  | y :: r, acc, neg => by
    show (if y = 43 then (neg, acc.reverse) :: termsFrom [] r false else if y = 45 then (neg, acc.reverse) :: termsFrom [] r true else termsFrom (y :: acc) r neg).length ≤ r.length + 1 + 1
    by_cases h1 : y = 43
    · rw [if_pos h1, List.length_cons]
      have := termsFrom_len r [] false
      omega
    · rw [if_neg h1]
      by_cases h2 : y = 45
      · rw [if_pos h2, List.length_cons]
        have := termsFrom_len r [] true
        omega
      · rw [if_neg h2]
        have := termsFrom_len r (y :: acc) neg
        omega
end Kn
namespace Kn
open Vbktaa
/-! ### a form's sum -/
/-- a number added at a place -/
def addL (l : List Int) (u : Nat × Int) : List Int := l.set u.1 (l.getD u.1 0 + u.2)
theorem addL_len (l : List Int) (u : Nat × Int) : (addL l u).length = l.length := by unfold addL; rw [List.length_set]
theorem getD_set {l : List Int} {i j : Nat} {x : Int} : (l.set i x).getD j 0 = if i = j ∧ i < l.length then x else l.getD j 0 := by
  rw [List.getD_eq_getElem?_getD, List.getD_eq_getElem?_getD, List.getElem?_set]
  by_cases e : i = j
  · subst e
    by_cases h : i < l.length
    · simp [h]
    · simp [h]
  · rw [if_neg e, if_neg (fun z => e z.1)]
theorem addL_comm (l : List Int) (u v : Nat × Int) : addL (addL l u) v = addL (addL l v) u := by
  unfold addL
  apply List.ext_getElem?
  intro k
  rw [List.getElem?_set, List.getElem?_set, List.getElem?_set, List.getElem?_set]
  rw [getD_set, getD_set]
  by_cases e : u.1 = v.1
  · by_cases h : v.1 < l.length
    · by_cases k1 : v.1 = k
      · simp [e, k1]
        by_cases hk : k < l.length
        · simp [hk]; omega
        · simp [hk]
      · simp [e, k1]
    · by_cases k1 : v.1 = k
      · subst k1; simp [e, h]
      · simp [e, k1]
  · have e' : ¬ v.1 = u.1 := fun z => e z.symm
    by_cases k1 : v.1 = k
    · subst k1; simp [e, e']
    · by_cases k2 : u.1 = k
      · subst k2; simp [e, e']
      · simp [k1, k2]
theorem foldl_addL : ∀ (us : List (Nat × Int)) (l : List Int) (u : Nat × Int), us.foldl addL (addL l u) = addL (us.foldl addL l) u
  | [], _, _ => rfl
  | v :: r, l, u => by
    rw [List.foldl_cons, List.foldl_cons, addL_comm, foldl_addL r]
/-- the list of a form: its number, then how many times each letter -/
def fL (f : Form) : List Int := f.c :: f.l
theorem fL_inj {f g : Form} (h : fL f = fL g) : f = g := by
  obtain ⟨c, l⟩ := f
  obtain ⟨c', l'⟩ := g
  have := List.cons.inj h
  obtain ⟨e1, e2⟩ := this
  have e1' : c = c' := e1
  have e2' : l = l' := e2
  subst e1' e2'; rfl
def placeOf : Option Nat → Nat
  | none => 0
  | some i => i + 1
theorem fL_sum (k : Nat) : ∀ (us : List (Int × Option Nat)), fL (sumTerms k us) = (us.map fun u => (placeOf u.2, u.1)).foldl addL (List.replicate (1 + k) 0)
  | [] => by
    show (0 : Int) :: List.replicate k 0 = List.replicate (1 + k) 0
    rw [Nat.add_comm, List.replicate_succ]
  | (n, none) :: r => by
    rw [List.map_cons, List.foldl_cons, foldl_addL, ← fL_sum k r]
    rfl
  | (n, some i) :: r => by
    rw [List.map_cons, List.foldl_cons, foldl_addL, ← fL_sum k r]
    show (sumTerms k r).c :: addAt (sumTerms k r).l i n = _
    unfold addL fL addAt
    show _ = ((sumTerms k r).c :: (sumTerms k r).l).set (i + 1) (((sumTerms k r).c :: (sumTerms k r).l).getD (i + 1) 0 + n)
    rw [List.set_cons_succ, List.getD_cons_succ]
/-- a sign -/
def sg (b : Bool) : Int := if b = true then -1 else 1
/-- a term's share -/
def share (ls : List Nat) (x : Bool × Text) : Nat × Int := ((termI ls x.2).2.toNat, sg x.1 * (termI ls x.2).1)
/-- the form's list behind so many terms -/
def sumI (ls : List Nat) (ts : List (Bool × Text)) : List Int := (ts.map (share ls)).foldl addL (List.replicate (1 + ls.length) 0)
theorem sumI_snoc (ls : List Nat) (ts : List (Bool × Text)) (x : Bool × Text) : sumI ls (ts ++ [x]) = addL (sumI ls ts) (share ls x) := by
  unfold sumI
  rw [List.map_append, List.foldl_append]; rfl
theorem sumI_len (ls : List Nat) : ∀ (ts : List (Bool × Text)), (sumI ls ts).length = 1 + ls.length := by
  have key : ∀ (us : List (Nat × Int)) (l : List Int), (us.foldl addL l).length = l.length := by
    intro us
    induction us with
    | nil => intro l; rfl
    | cons u r ih => intro l; rw [List.foldl_cons, ih, addL_len]
  intro ts
  unfold sumI
  rw [key, List.length_replicate]
theorem allSome_none {α : Type} : ∀ {l : List (Option α)}, none ∈ l → allSome l = none
  | none :: r, _ => rfl
  | some x :: r, h => by
    have : none ∈ r := by simpa using h
    show (allSome r).map _ = none
    rw [allSome_none this]; rfl
  | [], h => by cases h
theorem allSome_some {α : Type} : ∀ (l : List α), allSome (l.map some) = some l
  | [] => rfl
  | x :: r => by
    show (allSome (r.map some)).map _ = _
    rw [allSome_some r]; rfl
/-- a term of the specification, signed -/
def sTerm (ls : List Nat) (t : Bool × Text) : Option (Int × Option Nat) := (termOf (lets ls) t.2).map fun x => (if t.1 = true then -x.1 else x.1, x.2)
theorem sTerm_bad {ls : List Nat} {t : Bool × Text} (h : (termI ls t.2).2 < 0) : sTerm ls t = none := by
  unfold sTerm
  unfold termI at h
  cases e : termOf (lets ls) t.2 with
  | none => rfl
  | some x =>
    rw [e] at h
    obtain ⟨n, o⟩ := x
    cases o with
    | none => exact absurd h (by show ¬ (0 : Int) < 0; decide)
    | some i => exact absurd h (by show ¬ ((i : Int) + 1 < 0); omega)
theorem sTerm_good {ls : List Nat} {t : Bool × Text} (h : ¬ (termI ls t.2).2 < 0) : ∃ u, sTerm ls t = some u ∧ (placeOf u.2, u.1) = share ls t := by
  unfold sTerm share
  unfold termI at h ⊢
  cases e : termOf (lets ls) t.2 with
  | none => rw [e] at h; exact absurd (by decide : (-1 : Int) < 0) h
  | some x =>
    obtain ⟨n, o⟩ := x
    have hs : (if t.1 = true then -n else n) = sg t.1 * n := by
      unfold sg
      cases t.1
      · simp
      · simp
    cases o with
    | none => exact ⟨_, rfl, by show (0, (if t.1 = true then -n else n)) = ((0 : Int).toNat, sg t.1 * n); rw [hs]; rfl⟩
    | some i => exact ⟨_, rfl, by show (i + 1, (if t.1 = true then -n else n)) = (((i : Int) + 1).toNat, sg t.1 * n); rw [hs]; congr 1⟩
theorem formOf_eq (ls : List Nat) (w : Text) : formOf (lets ls) w = if 6 < (terms w).length then none else match (allSome ((terms w).map (sTerm ls))).map (sumTerms (lets ls).length) with
    | none => none
    | some f => if (f.c :: f.l).all (fun a => decide (a.natAbs ≤ 9999)) = true then some f else none := rfl
theorem lets_len (ls : List Nat) : (lets ls).length = ls.length := by unfold lets; rw [List.length_map]
/-- what form_of tells: a form's list, or none -/
def formI (ls : List Nat) (w : Text) : Option Form := formOf (lets ls) w
theorem form_long {ls : List Nat} {w : Text} (h : 6 < (terms w).length) : formI ls w = none := by
  unfold formI
  rw [formOf_eq, if_pos h]
theorem form_bad {ls : List Nat} {w : Text} {t : Bool × Text} (ht : t ∈ terms w) (h : (termI ls t.2).2 < 0) : formI ls w = none := by
  unfold formI
  rw [formOf_eq]
  by_cases hl : 6 < (terms w).length
  · rw [if_pos hl]
  · rw [if_neg hl, allSome_none (List.mem_map.mpr ⟨t, ht, sTerm_bad h⟩)]; rfl
theorem form_good {ls : List Nat} {w : Text} (hl : ¬ 6 < (terms w).length) (h : ∀ t ∈ terms w, ¬ (termI ls t.2).2 < 0) :
    ∃ f, fL f = sumI ls (terms w) ∧ formI ls w = if (sumI ls (terms w)).all (fun a => decide (a.natAbs ≤ 9999)) = true then some f else none := by
  have key : ∀ (ts : List (Bool × Text)), (∀ t ∈ ts, ¬ (termI ls t.2).2 < 0) → ∃ us : List (Int × Option Nat), ts.map (sTerm ls) = us.map some ∧ us.map (fun u => (placeOf u.2, u.1)) = ts.map (share ls) := by
    intro ts
    induction ts with
    | nil => intro _; exact ⟨[], rfl, rfl⟩
    | cons t r ih =>
      intro h
      obtain ⟨us, e1, e2⟩ := ih fun t ht => h t (List.mem_cons_of_mem _ ht)
      obtain ⟨u, e3, e4⟩ := sTerm_good (h t List.mem_cons_self)
      exact ⟨u :: us, by rw [List.map_cons, List.map_cons, e1, e3], by rw [List.map_cons, List.map_cons, e2, e4]⟩
  obtain ⟨us, e1, e2⟩ := key _ h
  have e3 : fL (sumTerms ls.length us) = sumI ls (terms w) := by
    rw [fL_sum, e2]; rfl
  refine ⟨sumTerms ls.length us, e3, ?_⟩
  unfold formI
  rw [formOf_eq, if_neg hl, e1, allSome_some, lets_len]
  show (if (fL (sumTerms ls.length us)).all _ = true then _ else _) = _
  rw [e3]
theorem formI_ok {ls : List Nat} {w : Text} {f : Form} (h : formI ls w = some f) : f.l.length = ls.length ∧ ∀ a ∈ fL f, a.natAbs ≤ 9999 := by
  by_cases hl : 6 < (terms w).length
  · rw [form_long hl] at h; cases h
  · by_cases hb : ∃ t ∈ terms w, (termI ls t.2).2 < 0
    · obtain ⟨t, ht, hn⟩ := hb
      rw [form_bad ht hn] at h; cases h
    · obtain ⟨g, e1, e2⟩ := form_good hl fun t ht hn => hb ⟨t, ht, hn⟩
      rw [e2] at h
      by_cases ha : (sumI ls (terms w)).all (fun a => decide (a.natAbs ≤ 9999)) = true
      · rw [if_pos ha] at h
        have e := Option.some.inj h
        subst e
        rw [← e1] at ha
        refine ⟨?_, fun a hm => of_decide_eq_true (List.all_eq_true.mp ha a hm)⟩
        have z := sumI_len ls (terms w)
        rw [← e1] at z
        have z' : g.l.length + 1 = 1 + ls.length := z
        omega
      · rw [if_neg ha] at h; cases h
/-- a word with a sign that is none of a form's is no form -/
theorem formI_newline (ls : List Nat) (h10 : 10 ∉ ls) : formI ls [10] = none := by
  refine form_bad (t := (false, [10])) (by decide) ?_
  show (termI ls [10]).2 < 0
  have e : idxOf (lets ls) [10] = none := idx_notin h10
  have e2 : termOf (lets ls) [10] = none := by
    unfold termOf
    show (if digit 10 = true then _ else match idxOf (lets ls) [10] with
      | none => none
      | some i => _) = none
    rw [if_neg (by decide), e]
  unfold termI
  rw [e2]
  decide
/-! ### a form's value -/
theorem foldl_shift : ∀ (l : List (Int × Int)) (a b : Int), l.foldl (fun t x => t + x.1 * x.2) (a + b) = a + l.foldl (fun t x => t + x.1 * x.2) b
  | [], _, _ => rfl
  | x :: r, a, b => by
    rw [List.foldl_cons, List.foldl_cons, Int.add_assoc, foldl_shift r]
theorem foldl_map_mul : ∀ (l : List (Int × Int)) (b : Int), (l.map fun x => x.1 * x.2).foldl (fun a b => a + b) b = l.foldl (fun t x => t + x.1 * x.2) b
  | [], _ => rfl
  | x :: r, b => by rw [List.map_cons, List.foldl_cons, List.foldl_cons, foldl_map_mul r]
theorem value_eq (v : List Int) (f : Form) : value v f = (f.l.zip v).foldl (fun t x => t + x.1 * x.2) f.c := by
  unfold value
  rw [foldl_map_mul, ← foldl_shift, Int.add_zero]
end Kn
namespace Kn
open Vbktaa
/-! ### numbers shown -/
theorem decimal_eq (n : Nat) : decimal n = (Nat.toDigits 10 n).map fun c => c.toNat := by
  show (Nat.repr n).toList.map _ = _
  rw [Nat.toList_repr]
theorem decimal_ne (n : Nat) : decimal n ≠ [] := by
  rw [decimal_eq]
  intro h
  exact Nat.toDigits_ne_nil (List.map_eq_nil_iff.mp h)
theorem decimal_digit {n : Nat} {c : Nat} (h : c ∈ decimal n) : 48 ≤ c ∧ c ≤ 57 := by
  rw [decimal_eq] at h
  obtain ⟨d, hd, e⟩ := List.mem_map.mp h
  have := Nat.isDigit_of_mem_toDigits (by decide) (by decide) hd
  subst e
  unfold Char.isDigit at this
  simp at this
  have h1 := UInt32.le_iff_toNat_le.mp this.1
  have h2 := UInt32.le_iff_toNat_le.mp this.2
  exact ⟨h1, h2⟩
/-- the signs of str(n) -/
def signsI (n : Int) : Text := (toString n).toList.map fun c => c.toNat
theorem signsI_nat (n : Nat) : signsI (n : Int) = decimal n := rfl
theorem signsI_eq (n : Int) : signsI n = signed true n (decimal n.natAbs) := by
  cases n with
  | ofNat m =>
    unfold signed
    rw [if_neg (by show ¬ ((m : Int) < 0); omega), if_pos rfl]; rfl
  | negSucc m =>
    unfold signed
    rw [if_pos (by exact Int.negSucc_lt_zero m)]
    show ("-" ++ toString (m + 1)).toList.map _ = _
    rw [String.toList_append, List.map_append]; rfl
theorem signsI_ne (n : Int) : signsI n ≠ [] := by
  rw [signsI_eq]
  unfold signed
  intro h
  exact decimal_ne _ (List.append_eq_nil_iff.mp h).2
theorem toDigits_small : ∀ (n : Nat), n ≤ 9999 → (Nat.toDigits 10 n).length ≤ 4 := by
  intro n h
  by_cases z : n = 0
  · subst z; decide
  · rw [Nat.length_toDigits_le_iff (by decide) (by decide)]; omega
/-! ### a form shown -/
def signT (n : Int) (first : Bool) : Text := if n < 0 then [45] else if first = true then [] else [43]
theorem signed_eq (first : Bool) (n : Int) (t : Text) : signed first n t = signT n first ++ t := rfl
/-- behind the sign: how many, and the letter -/
def manyT (x : Int × Nat) : Text := (if x.1.natAbs = 1 then [] else decimal x.1.natAbs) ++ [x.2]
/-- a turn of form_shown's loop -/
def showStep (found : Text) (x : Int × Nat) : Text := if x.1 = 0 then found else found ++ (signT x.1 (decide (found = [])) ++ manyT x)
def headT (f : Form) : Text := if f.c ≠ 0 ∨ ∀ a ∈ f.l, a = 0 then signsI f.c else []
def restT (xs : List (Int × Nat)) : Text := xs.flatMap fun x => signT x.1 false ++ manyT x
theorem show_rest : ∀ (xs : List (Int × Nat)) (found : Text), found ≠ [] → xs.foldl showStep found = found ++ restT (xs.filter fun x => x.1 != 0)
  | [], found, _ => by simp [restT]
  | x :: r, found, h => by
    rw [List.foldl_cons]
    by_cases e : x.1 = 0
    · have e1 : showStep found x = found := if_pos e
      have e2 : (x :: r).filter (fun x => x.1 != 0) = r.filter fun x => x.1 != 0 := List.filter_cons_of_neg (by simp [e])
      rw [e1, e2]
      exact show_rest r found h
    · have e1 : showStep found x = found ++ (signT x.1 false ++ manyT x) := by
        unfold showStep
        rw [if_neg e, decide_eq_false h]
      have e2 : (x :: r).filter (fun x => x.1 != 0) = x :: r.filter fun x => x.1 != 0 := List.filter_cons_of_pos (by simp [e])
      rw [e1, e2, show_rest r _ (by intro z; exact h (List.append_eq_nil_iff.mp z).1)]
      show _ = found ++ (signT x.1 false ++ manyT x ++ restT _)
      rw [List.append_assoc, List.append_assoc]
theorem manyT_ne (x : Int × Nat) : manyT x ≠ [] := by
  unfold manyT
  intro h
  have := (List.append_eq_nil_iff.mp h).2
  cases this
theorem show_first : ∀ (xs : List (Int × Nat)), xs.foldl showStep [] = match xs.filter fun x => x.1 != 0 with
    | [] => []
    | x :: r => signT x.1 true ++ manyT x ++ restT r
  | [] => rfl
  | x :: r => by
    rw [List.foldl_cons]
    by_cases e : x.1 = 0
    · have e1 : showStep [] x = [] := if_pos e
      have e2 : (x :: r).filter (fun x => x.1 != 0) = r.filter fun x => x.1 != 0 := List.filter_cons_of_neg (by simp [e])
      rw [e1, e2]
      exact show_first r
    · have e1 : showStep [] x = signT x.1 true ++ manyT x := by
        unfold showStep
        rw [if_neg e]; rfl
      have e2 : (x :: r).filter (fun x => x.1 != 0) = x :: r.filter fun x => x.1 != 0 := List.filter_cons_of_pos (by simp [e])
      rw [e1, e2]
      exact show_rest r _ (by intro z; exact manyT_ne x (List.append_eq_nil_iff.mp z).2)
/-- the letters that stand in a form, with how many times -/
theorem pairs_eq (l : List Int) (ls : List Nat) (k : Nat) (g : Nat → Int) (hg : ∀ i, i < l.length → g (k + i) = l.getD i 0) (hl : l.length = ls.length) :
    (((List.range' k ls.length).zip (lets ls)).filter fun x => g x.1 != 0).map (fun x => (g x.1, x.2)) = ((l.zip ls).filter fun x => x.1 != 0).map fun x => (x.1, [x.2]) := by
  induction ls generalizing l k with
  | nil =>
    cases l with
    | nil => rfl
    | cons a r => cases hl
  | cons c ls ih =>
    cases l with
    | nil => cases hl
    | cons a r =>
      have g0 : g k = a := hg 0 (by simp)
      have ih' := ih r (k + 1) (fun i hi => by
        have := hg (i + 1) (by simp; exact hi)
        rw [show k + 1 + i = k + (i + 1) from by omega, this]; rfl) (by simpa using hl)
      show (((k :: List.range' (k + 1) ls.length).zip ([c] :: lets ls)).filter fun x => g x.1 != 0).map (fun x => (g x.1, x.2)) = (((a, c) :: r.zip ls).filter fun x => x.1 != 0).map fun x => (x.1, [x.2])
      rw [List.zip_cons_cons]
      by_cases e : a = 0
      · rw [List.filter_cons_of_neg (by simp [g0, e]), List.filter_cons_of_neg (by simp [e])]
        exact ih'
      · rw [List.filter_cons_of_pos (by simp [g0, e]), List.filter_cons_of_pos (by simp [e]), List.map_cons, List.map_cons, ih', g0]
theorem range'_eq (n : Nat) : List.range n = List.range' 0 n := List.range_eq_range'
/-- a flatMap that asks the place alone whether it's the first -/
theorem flat_rest (G : Bool → Int × Text → Text) (coefs : Nat → Int) (b : Bool) : ∀ (ls : List (Nat × Text)) (k : Nat), 0 < k → ((List.range' k ls.length).zip ls).flatMap (fun y => G (b && y.1 == 0) (coefs y.2.1, y.2.2)) = (ls.map fun x => (coefs x.1, x.2)).flatMap (G false)
  | [], _, _ => rfl
  | x :: r, k, h => by
    have e : (k == 0) = false := beq_eq_false_iff_ne.mpr (by omega)
    show (((k, x) :: (List.range' (k + 1) r.length).zip r).flatMap _) = ((coefs x.1, x.2) :: r.map fun x => (coefs x.1, x.2)).flatMap (G false)
    rw [List.flatMap_cons, List.flatMap_cons, flat_rest G coefs b r (k + 1) (by omega)]
    show G (b && k == 0) _ ++ _ = _
    rw [e, Bool.and_false]
theorem flat_first (G : Bool → Int × Text → Text) (coefs : Nat → Int) (b : Bool) (ls : List (Nat × Text)) : ((List.range ls.length).zip ls).flatMap (fun y => G (b && y.1 == 0) (coefs y.2.1, y.2.2)) = match ls.map fun x => (coefs x.1, x.2) with
    | [] => []
    | x :: r => G b x ++ r.flatMap (G false) := by
  rw [range'_eq]
  cases ls with
  | nil => rfl
  | cons x r =>
    show (((0, x) :: (List.range' 1 r.length).zip r).flatMap _) = _
    rw [List.flatMap_cons, flat_rest G coefs b r 1 (by omega)]
    show G (b && 0 == 0) _ ++ _ = _
    rw [show (b && (0 : Nat) == 0) = b from by simp]; rfl
theorem shownForm_eq (ls : List Nat) (f : Form) (hl : f.l.length = ls.length) : shownForm (lets ls) f = (f.l.zip ls).foldl showStep (headT f) := by
  have hp := pairs_eq f.l ls 0 (coef f) (fun i _ => by rw [Nat.zero_add]; rfl) hl
  rw [← range'_eq, ← lets_len ls] at hp
  have hemp : (((List.range (lets ls).length).zip (lets ls)).filter fun x => coef f x.1 != 0).isEmpty = ((f.l.zip ls).filter fun x => x.1 != 0).isEmpty := by
    have := congrArg List.isEmpty hp
    rw [List.isEmpty_map, List.isEmpty_map] at this
    exact this
  have hall : ((f.l.zip ls).filter fun x => x.1 != 0).isEmpty = true ↔ ∀ a ∈ f.l, a = 0 := by
    rw [List.isEmpty_iff, List.filter_eq_nil_iff]
    constructor
    · intro h a ha
      obtain ⟨i, hi, e⟩ := List.mem_iff_getElem.mp ha
      have := h ((f.l.zip ls)[i]'(by rw [List.length_zip]; omega)) (List.getElem_mem _)
      rw [List.getElem_zip] at this
      rw [e] at this
      simpa using this
    · intro h x hx
      have := h x.1 (List.of_mem_zip (a := x.1) (b := x.2) hx).1
      simp [this]
  have hG : ∀ (b : Bool) (ys : List (Nat × Text)), ((List.range ys.length).zip ys).flatMap (fun y => signed (b && y.1 == 0) (coef f y.2.1) ((if (coef f y.2.1).natAbs = 1 then [] else decimal (coef f y.2.1).natAbs) ++ y.2.2)) = match ys.map fun x => (coef f x.1, x.2) with
      | [] => []
      | x :: r => signed b x.1 ((if x.1.natAbs = 1 then [] else decimal x.1.natAbs) ++ x.2) ++ r.flatMap fun x => signed false x.1 ((if x.1.natAbs = 1 then [] else decimal x.1.natAbs) ++ x.2) := fun b ys =>
    flat_first (fun b x => signed b x.1 ((if x.1.natAbs = 1 then [] else decimal x.1.natAbs) ++ x.2)) (coef f) b ys
  have e0 : shownForm (lets ls) f = (if (f.c != 0 || (((List.range (lets ls).length).zip (lets ls)).filter fun x => coef f x.1 != 0).isEmpty) = true then signed true f.c (decimal f.c.natAbs) else []) ++
      ((List.range (((List.range (lets ls).length).zip (lets ls)).filter fun x => coef f x.1 != 0).length).zip (((List.range (lets ls).length).zip (lets ls)).filter fun x => coef f x.1 != 0)).flatMap (fun y => signed (!(f.c != 0 || (((List.range (lets ls).length).zip (lets ls)).filter fun x => coef f x.1 != 0).isEmpty) && y.1 == 0) (coef f y.2.1) ((if (coef f y.2.1).natAbs = 1 then [] else decimal (coef f y.2.1).natAbs) ++ y.2.2)) := rfl
  rw [e0, hG, hp, hemp]
  have hrest : ∀ (xs : List (Int × Nat)), (xs.map fun x => (x.1, [x.2])).flatMap (fun x : Int × Text => signed false x.1 ((if x.1.natAbs = 1 then [] else decimal x.1.natAbs) ++ x.2)) = restT xs := by
    intro xs
    induction xs with
    | nil => rfl
    | cons x r ih =>
      rw [List.map_cons, List.flatMap_cons, ih]; rfl
  by_cases hh : f.c ≠ 0 ∨ ∀ a ∈ f.l, a = 0
  · have e1 : (f.c != 0 || ((f.l.zip ls).filter fun x => x.1 != 0).isEmpty) = true := by
      rw [Bool.or_eq_true]
      rcases hh with h | h
      · exact .inl (by simpa using h)
      · exact .inr (hall.mpr h)
    have e2 : headT f = signsI f.c := if_pos hh
    rw [e1, if_pos rfl, e2, show_rest _ _ (signsI_ne _), ← signsI_eq]
    congr 1
    cases (f.l.zip ls).filter fun x => x.1 != 0 with
    | nil => rfl
    | cons x r =>
      show signed false _ _ ++ (r.map fun x => (x.1, [x.2])).flatMap _ = _
      rw [hrest]; rfl
  · have e1 : (f.c != 0 || ((f.l.zip ls).filter fun x => x.1 != 0).isEmpty) = false := by
      rw [Bool.or_eq_false_iff]
      constructor
      · have : f.c = 0 := Decidable.not_not.mp fun z => hh (.inl z)
        simp [this]
      · cases z : ((f.l.zip ls).filter fun x => x.1 != 0).isEmpty with
        | false => rfl
        | true => exact absurd (.inr (hall.mp z)) hh
    have e2 : headT f = [] := if_neg hh
    rw [e1, if_neg (by decide), e2, show_first, List.nil_append]
    cases (f.l.zip ls).filter fun x => x.1 != 0 with
    | nil => rfl
    | cons x r =>
      show signed true _ _ ++ (r.map fun x => (x.1, [x.2])).flatMap _ = _
      rw [hrest]; rfl
end Kn
namespace Kn
open Vbktaa
/-! ### items read: without a number for how much may still be read -/
theorem itemsIn_nil (ls : List Text) (f d : Nat) (c : Option Text) : itemsIn ls (f + 1) d c [] = if c = none then some (.nil, []) else none := by
  rw [itemsIn]
theorem itemsIn_cons (ls : List Text) (f d : Nat) (c : Option Text) (w : Text) (r : List Text) : itemsIn ls (f + 1) d c (w :: r) = if some w = c then some (.nil, r) else match itemIn ls f d (w :: r) with
    | none => none
    | some (i, q) => match itemsIn ls f d c q with
      | none => none
      | some (l, z) => some (.cons i l, z) := by
  rw [itemsIn]
  rfl
/-- behind a stitch or a round bracket: how many times -/
def timesIn (ls : List Text) (mk : Form → Item) (r : List Text) : Option (Item × List Text) := match r with
  | t :: q => (match formOf ls t with
    | some t => some (mk t, q)
    | none => some (mk (sumTerms ls.length [(1, none)]), r))
  | [] => some (mk (sumTerms ls.length [(1, none)]), [])
/-- behind a fill's bracket -/
def fillIn (ls : List Text) (mk : Form → Item) (z : List Text) : Option (Item × List Text) := match z with
  | to :: t :: q => if to = word "to" then (formOf ls t).map fun t => (mk t, q) else none
  | _ => none
theorem itemIn_nil (ls : List Text) (f d : Nat) : itemIn ls (f + 1) d [] = none := by rw [itemIn]
theorem itemIn_cons (ls : List Text) (f d : Nat) (w : Text) (r : List Text) : itemIn ls (f + 1) d (w :: r) =
    if w = OPEN then (match d with
        | 0 => none
        | d + 1 => match itemsIn ls f d (some SHUT) r with
          | some (.cons i l, z) => timesIn ls (.group (.cons i l)) z
          | _ => none)
      else if w = BEGIN then (match d with
        | 0 => none
        | d + 1 => match itemsIn ls f d (some END) r with
          | some (.cons i l, z) => fillIn ls (.fill (.cons i l)) z
          | _ => none)
      else match idxOf NAMES w with
        | none => none
        | some s => timesIn ls (.st s) r := by
  rw [itemIn.eq_def]
  dsimp only
  by_cases h1 : w = OPEN
  · rw [if_pos h1, if_pos h1]
    cases d with
    | zero => rfl
    | succ d =>
      dsimp only
      cases itemsIn ls f d (some SHUT) r with
      | none => rfl
      | some x =>
        obtain ⟨l, z⟩ := x
        cases l with
        | nil => rfl
        | cons i l => rfl
  · rw [if_neg h1, if_neg h1]
    by_cases h2 : w = BEGIN
    · rw [if_pos h2, if_pos h2]
      cases d with
      | zero => rfl
      | succ d =>
        dsimp only
        cases itemsIn ls f d (some END) r with
        | none => rfl
        | some x =>
          obtain ⟨l, z⟩ := x
          cases l with
          | nil => rfl
          | cons i l => rfl
    · rw [if_neg h2, if_neg h2]
      cases idxOf NAMES w with
      | none => rfl
      | some s => cases r <;> rfl
theorem timesIn_drop {ls : List Text} {mk : Form → Item} {r : List Text} {x : Item × List Text} (h : timesIn ls mk r = some x) : ∃ k, k ≤ r.length ∧ x.2 = r.drop k := by
  cases r with
  | nil =>
    have e := Option.some.inj (show some _ = some x from h)
    subst e; exact ⟨0, Nat.le_refl _, rfl⟩
  | cons t q =>
    have h' : (match formOf ls t with
      | some t => some (mk t, q)
      | none => some (mk (sumTerms ls.length [(1, none)]), t :: q)) = some x := h
    cases hf : formOf ls t with
    | none =>
      rw [hf] at h'
      have e := Option.some.inj h'
      subst e; exact ⟨0, Nat.zero_le _, rfl⟩
    | some g =>
      rw [hf] at h'
      have e := Option.some.inj h'
      subst e; exact ⟨1, by simp, rfl⟩
theorem fillIn_drop {ls : List Text} {mk : Form → Item} {r : List Text} {x : Item × List Text} (h : fillIn ls mk r = some x) : ∃ k, k ≤ r.length ∧ x.2 = r.drop k := by
  cases r with
  | nil => cases h
  | cons to q =>
    cases q with
    | nil => cases h
    | cons t q =>
      have h' : (if to = word "to" then (formOf ls t).map fun t => (mk t, q) else none) = some x := h
      by_cases e : to = word "to"
      · rw [if_pos e] at h'
        cases hf : formOf ls t with
        | none => rw [hf] at h'; cases h'
        | some g =>
          rw [hf] at h'
          have e := Option.some.inj h'
          subst e; exact ⟨2, by simp, rfl⟩
      · rw [if_neg e] at h'; cases h'
theorem drop_drop' {α : Type} {l : List α} {i j : Nat} (hi : i ≤ l.length) (hj : j ≤ (l.drop i).length) : (l.drop i).drop j = l.drop (i + j) ∧ i + j ≤ l.length := by
  rw [List.drop_drop]
  rw [List.length_drop] at hj
  exact ⟨rfl, by omega⟩
/-- what is read on is a rest of what was to be read, and the number doesn't matter while it is great enough -/
theorem items_fuel (ls : List Text) : ∀ (n : Nat),
    (∀ (ws : List Text), ws.length ≤ n → ∀ (f g d : Nat) (c : Option Text), 2 * ws.length + 2 ≤ f → 2 * ws.length + 2 ≤ g → itemsIn ls f d c ws = itemsIn ls g d c ws ∧ ∀ l z, itemsIn ls f d c ws = some (l, z) → ∃ k, k ≤ ws.length ∧ z = ws.drop k) ∧
    (∀ (ws : List Text), ws.length ≤ n → ∀ (f g d : Nat), 2 * ws.length + 1 ≤ f → 2 * ws.length + 1 ≤ g → itemIn ls f d ws = itemIn ls g d ws ∧ ∀ i z, itemIn ls f d ws = some (i, z) → ∃ k, 0 < k ∧ k ≤ ws.length ∧ z = ws.drop k) := by
  intro n
  induction n with
  | zero =>
    constructor
    · intro ws h f g d c hf hg
      have e : ws = [] := List.eq_nil_of_length_eq_zero (by omega)
      subst e
      obtain ⟨f, rfl⟩ : ∃ k, f = k + 1 := ⟨f - 1, by simp at hf; omega⟩
      obtain ⟨g, rfl⟩ : ∃ k, g = k + 1 := ⟨g - 1, by simp at hg; omega⟩
      rw [itemsIn_nil, itemsIn_nil]
      refine ⟨rfl, fun l z h => ⟨0, Nat.le_refl _, ?_⟩⟩
      by_cases hc : c = none
      · rw [if_pos hc] at h
        have := Option.some.inj h
        exact (Prod.mk.inj this).2.symm
      · rw [if_neg hc] at h; cases h
    · intro ws h f g d hf hg
      have e : ws = [] := List.eq_nil_of_length_eq_zero (by omega)
      subst e
      obtain ⟨f, rfl⟩ : ∃ k, f = k + 1 := ⟨f - 1, by simp at hf; omega⟩
      obtain ⟨g, rfl⟩ : ∃ k, g = k + 1 := ⟨g - 1, by simp at hg; omega⟩
      rw [itemIn_nil, itemIn_nil]
      exact ⟨rfl, fun l z h => by cases h⟩
  | succ n ih =>
    obtain ⟨ihs, _⟩ := ih
    -- an item first
    have hi : ∀ (ws : List Text), ws.length ≤ n + 1 → ∀ (f g d : Nat), 2 * ws.length + 1 ≤ f → 2 * ws.length + 1 ≤ g → itemIn ls f d ws = itemIn ls g d ws ∧ ∀ i z, itemIn ls f d ws = some (i, z) → ∃ k, 0 < k ∧ k ≤ ws.length ∧ z = ws.drop k := by
      intro ws h f g d hf hg
      obtain ⟨f, rfl⟩ : ∃ k, f = k + 1 := ⟨f - 1, by omega⟩
      obtain ⟨g, rfl⟩ : ∃ k, g = k + 1 := ⟨g - 1, by omega⟩
      cases ws with
      | nil =>
        rw [itemIn_nil, itemIn_nil]
        exact ⟨rfl, fun l z h => by cases h⟩
      | cons w r =>
        rw [List.length_cons] at h hf hg
        rw [itemIn_cons, itemIn_cons]
        by_cases h1 : w = OPEN
        · rw [if_pos h1, if_pos h1]
          cases d with
          | zero => exact ⟨rfl, fun l z h => by cases h⟩
          | succ d =>
            obtain ⟨e, sz⟩ := ihs r (by omega) f g d (some SHUT) (by omega) (by omega)
            show (match itemsIn ls f d (some SHUT) r with
                | some (.cons i l, z) => timesIn ls (.group (.cons i l)) z
                | _ => none) = (match itemsIn ls g d (some SHUT) r with
                | some (.cons i l, z) => timesIn ls (.group (.cons i l)) z
                | _ => none) ∧ ∀ i z, (match itemsIn ls f d (some SHUT) r with
                | some (.cons i l, z) => timesIn ls (.group (.cons i l)) z
                | _ => none) = some (i, z) → _
            rw [← e]
            refine ⟨rfl, fun i z hz => ?_⟩
            cases hx : itemsIn ls f d (some SHUT) r with
            | none => rw [hx] at hz; cases hz
            | some x =>
              rw [hx] at hz
              obtain ⟨l, q⟩ := x
              obtain ⟨k, hk, ek⟩ := sz l q hx
              cases l with
              | nil => cases hz
              | cons i' l =>
                obtain ⟨j, hj, ej⟩ := timesIn_drop hz
                subst ek
                obtain ⟨e3, e4⟩ := drop_drop' hk hj
                exact ⟨k + j + 1, by omega, by rw [List.length_cons]; omega, by rw [List.drop_succ_cons, ← e3]; exact ej⟩
        · rw [if_neg h1, if_neg h1]
          by_cases h2 : w = BEGIN
          · rw [if_pos h2, if_pos h2]
            cases d with
            | zero => exact ⟨rfl, fun l z h => by cases h⟩
            | succ d =>
              obtain ⟨e, sz⟩ := ihs r (by omega) f g d (some END) (by omega) (by omega)
              show (match itemsIn ls f d (some END) r with
                  | some (.cons i l, z) => fillIn ls (.fill (.cons i l)) z
                  | _ => none) = (match itemsIn ls g d (some END) r with
                  | some (.cons i l, z) => fillIn ls (.fill (.cons i l)) z
                  | _ => none) ∧ ∀ i z, (match itemsIn ls f d (some END) r with
                  | some (.cons i l, z) => fillIn ls (.fill (.cons i l)) z
                  | _ => none) = some (i, z) → _
              rw [← e]
              refine ⟨rfl, fun i z hz => ?_⟩
              cases hx : itemsIn ls f d (some END) r with
              | none => rw [hx] at hz; cases hz
              | some x =>
                rw [hx] at hz
                obtain ⟨l, q⟩ := x
                obtain ⟨k, hk, ek⟩ := sz l q hx
                cases l with
                | nil => cases hz
                | cons i' l =>
                  obtain ⟨j, hj, ej⟩ := fillIn_drop hz
                  subst ek
                  obtain ⟨e3, e4⟩ := drop_drop' hk hj
                  exact ⟨k + j + 1, by omega, by rw [List.length_cons]; omega, by rw [List.drop_succ_cons, ← e3]; exact ej⟩
          · rw [if_neg h2, if_neg h2]
            refine ⟨rfl, fun i z hz => ?_⟩
            cases hx : idxOf NAMES w with
            | none => rw [hx] at hz; cases hz
            | some s =>
              rw [hx] at hz
              obtain ⟨j, hj, ej⟩ := timesIn_drop (show timesIn ls (.st s) r = some (i, z) from hz)
              exact ⟨j + 1, by omega, by rw [List.length_cons]; omega, by rw [List.drop_succ_cons]; exact ej⟩
    refine ⟨?_, hi⟩
    intro ws h f g d c hf hg
    obtain ⟨f, rfl⟩ : ∃ k, f = k + 1 := ⟨f - 1, by omega⟩
    obtain ⟨g, rfl⟩ : ∃ k, g = k + 1 := ⟨g - 1, by omega⟩
    cases ws with
    | nil =>
      rw [itemsIn_nil, itemsIn_nil]
      refine ⟨rfl, fun l z h => ⟨0, Nat.le_refl _, ?_⟩⟩
      by_cases hc : c = none
      · rw [if_pos hc] at h
        have := Option.some.inj h
        exact (Prod.mk.inj this).2.symm
      · rw [if_neg hc] at h; cases h
    | cons w r =>
      rw [itemsIn_cons, itemsIn_cons]
      by_cases hc : some w = c
      · rw [if_pos hc, if_pos hc]
        refine ⟨rfl, fun l z h => ⟨1, by simp, ?_⟩⟩
        have := Option.some.inj h
        exact (Prod.mk.inj this).2.symm
      · rw [if_neg hc, if_neg hc]
        obtain ⟨e, sz⟩ := hi (w :: r) h f g d (by omega) (by omega)
        rw [← e]
        cases hx : itemIn ls f d (w :: r) with
        | none => exact ⟨rfl, fun l z h => by cases h⟩
        | some x =>
          obtain ⟨i, q⟩ := x
          obtain ⟨k, k0, hk, ek⟩ := sz i q hx
          have hq : q.length + k = (w :: r).length := by rw [ek, List.length_drop]; omega
          obtain ⟨e2, sz2⟩ := ihs q (by omega) f g d c (by omega) (by omega)
          show (match itemsIn ls f d c q with
            | none => none
            | some (l, z) => some (Items.cons i l, z)) = (match itemsIn ls g d c q with
            | none => none
            | some (l, z) => some (Items.cons i l, z)) ∧ ∀ l z, (match itemsIn ls f d c q with
            | none => none
            | some (l, z) => some (Items.cons i l, z)) = some (l, z) → _
          rw [← e2]
          refine ⟨rfl, fun l z hz => ?_⟩
          cases hy : itemsIn ls f d c q with
          | none => rw [hy] at hz; cases hz
          | some y =>
            rw [hy] at hz
            obtain ⟨l2, z2⟩ := y
            obtain ⟨j, hj, ej⟩ := sz2 l2 z2 hy
            have e4 : z2 = z := (Prod.mk.inj (Option.some.inj hz)).2
            subst e4
            subst ek
            obtain ⟨e3, e5⟩ := drop_drop' hk hj
            exact ⟨k + j, e5, by rw [← e3]; exact ej⟩
/-- items, an item, read with as much as is needed -/
def itemsN (ls : List Text) (d : Nat) (c : Option Text) (ws : List Text) : Option (Items × List Text) := itemsIn ls (2 * ws.length + 2) d c ws
def itemN (ls : List Text) (d : Nat) (ws : List Text) : Option (Item × List Text) := itemIn ls (2 * ws.length + 1) d ws
theorem itemsN_is {ls : List Text} {f d : Nat} {c : Option Text} {ws : List Text} (h : 2 * ws.length + 2 ≤ f) : itemsIn ls f d c ws = itemsN ls d c ws :=
  (((items_fuel ls ws.length).1 ws (Nat.le_refl _) f (2 * ws.length + 2) d c h (Nat.le_refl _))).1
theorem itemN_is {ls : List Text} {f d : Nat} {ws : List Text} (h : 2 * ws.length + 1 ≤ f) : itemIn ls f d ws = itemN ls d ws :=
  (((items_fuel ls ws.length).2 ws (Nat.le_refl _) f (2 * ws.length + 1) d h (Nat.le_refl _))).1
theorem itemN_drop {ls : List Text} {d : Nat} {ws z : List Text} {i : Item} (h : itemN ls d ws = some (i, z)) : ∃ k, 0 < k ∧ k ≤ ws.length ∧ z = ws.drop k :=
  ((items_fuel ls ws.length).2 ws (Nat.le_refl _) (2 * ws.length + 1) (2 * ws.length + 1) d (Nat.le_refl _) (Nat.le_refl _)).2 i z h
theorem itemsN_drop {ls : List Text} {d : Nat} {c : Option Text} {ws z : List Text} {l : Items} (h : itemsN ls d c ws = some (l, z)) : ∃ k, k ≤ ws.length ∧ z = ws.drop k :=
  ((items_fuel ls ws.length).1 ws (Nat.le_refl _) (2 * ws.length + 2) (2 * ws.length + 2) d c (Nat.le_refl _) (Nat.le_refl _)).2 l z h
theorem itemsN_nil (ls : List Text) (d : Nat) (c : Option Text) : itemsN ls d c [] = if c = none then some (.nil, []) else none := itemsIn_nil ls 1 d c
theorem itemsN_cons (ls : List Text) (d : Nat) (c : Option Text) (w : Text) (r : List Text) : itemsN ls d c (w :: r) = if some w = c then some (.nil, r) else match itemN ls d (w :: r) with
    | none => none
    | some (i, q) => match itemsN ls d c q with
      | none => none
      | some (l, z) => some (.cons i l, z) := by
  have e1 : itemsN ls d c (w :: r) = itemsIn ls (2 * (w :: r).length + 1 + 1) d c (w :: r) := rfl
  rw [e1, itemsIn_cons]
  by_cases hc : some w = c
  · rw [if_pos hc, if_pos hc]
  · rw [if_neg hc, if_neg hc, itemN_is (Nat.le_refl _)]
    cases hx : itemN ls d (w :: r) with
    | none => rfl
    | some x =>
      obtain ⟨i, q⟩ := x
      obtain ⟨k, k0, hk, ek⟩ := itemN_drop hx
      show (match itemsIn ls (2 * (w :: r).length + 1) d c q with
        | none => none
        | some (l, z) => some (Items.cons i l, z)) = _
      rw [itemsN_is (by rw [ek, List.length_drop]; omega)]
theorem itemN_nil (ls : List Text) (d : Nat) : itemN ls d [] = none := itemIn_nil ls 0 d
theorem itemN_cons (ls : List Text) (d : Nat) (w : Text) (r : List Text) : itemN ls d (w :: r) =
    if w = OPEN then (match d with
        | 0 => none
        | d + 1 => match itemsN ls d (some SHUT) r with
          | some (.cons i l, z) => timesIn ls (.group (.cons i l)) z
          | _ => none)
      else if w = BEGIN then (match d with
        | 0 => none
        | d + 1 => match itemsN ls d (some END) r with
          | some (.cons i l, z) => fillIn ls (.fill (.cons i l)) z
          | _ => none)
      else match idxOf NAMES w with
        | none => none
        | some s => timesIn ls (.st s) r := by
  have e1 : itemN ls d (w :: r) = itemIn ls (2 * r.length + 2 + 1) d (w :: r) := rfl
  rw [e1, itemIn_cons]
  cases d with
  | zero => rfl
  | succ d =>
    show (if w = OPEN then (match itemsIn ls (2 * r.length + 2) d (some SHUT) r with
        | some (.cons i l, z) => timesIn ls (.group (.cons i l)) z
        | _ => none) else if w = BEGIN then (match itemsIn ls (2 * r.length + 2) d (some END) r with
        | some (.cons i l, z) => fillIn ls (.fill (.cons i l)) z
        | _ => none) else _) = _
    rw [itemsN_is (Nat.le_refl _), itemsN_is (Nat.le_refl _)]
/-- items behind items -/
def appI : Items → Items → Items
  | .nil, m => m
  | .cons i r, m => .cons i (appI r m)
theorem appI_nil : ∀ (l : Items), appI l .nil = l
  | .nil => rfl
  | .cons i r => congrArg (Items.cons i) (appI_nil r)
theorem appI_assoc : ∀ (a b c : Items), appI (appI a b) c = appI a (appI b c)
  | .nil, _, _ => rfl
  | .cons i r, b, c => congrArg (Items.cons i) (appI_assoc r b c)
/-- items read ahead -/
def ahead (l : Items) : Option (Items × List Text) → Option (Items × List Text)
  | none => none
  | some (m, z) => some (appI l m, z)
theorem ahead_nil (x : Option (Items × List Text)) : ahead .nil x = x := by
  cases x with
  | none => rfl
  | some y => rfl
theorem ahead_ahead (a b : Items) (x : Option (Items × List Text)) : ahead a (ahead b x) = ahead (appI a b) x := by
  cases x with
  | none => rfl
  | some y =>
    obtain ⟨m, z⟩ := y
    show some (appI a (appI b m), z) = some (appI (appI a b) m, z)
    rw [appI_assoc]
/-- one item more is read -/
theorem itemsN_step {ls : List Text} {d : Nat} {c : Option Text} {w : Text} {r q : List Text} {i : Item} (hc : some w ≠ c) (h : itemN ls d (w :: r) = some (i, q)) : itemsN ls d c (w :: r) = ahead (.cons i .nil) (itemsN ls d c q) := by
  rw [itemsN_cons, if_neg hc, h]
  show (match itemsN ls d c q with
      | none => none
      | some (l, z) => some (Items.cons i l, z)) = _
  cases itemsN ls d c q with
  | none => rfl
  | some y => rfl
theorem itemsN_fail {ls : List Text} {d : Nat} {c : Option Text} {w : Text} {r : List Text} (hc : some w ≠ c) (h : itemN ls d (w :: r) = none) : itemsN ls d c (w :: r) = none := by
  rw [itemsN_cons, if_neg hc, h]
theorem itemsN_stop {ls : List Text} {d : Nat} {w : Text} {r : List Text} : itemsN ls d (some w) (w :: r) = some (.nil, r) := by
  rw [itemsN_cons, if_pos rfl]
theorem rowIn_eq (ls : List Text) (ws : List Text) : rowIn ls ws = match itemsN ls 3 none ws with
    | some (.cons i l, []) => some (.cons i l)
    | _ => none := by
  unfold rowIn
  rw [itemsN_is (by omega)]; rfl
/-- a row's items go to the line's end -/
theorem itemsN_none_rest {ls : List Text} {d : Nat} : ∀ (n : Nat) (ws z : List Text) (l : Items), ws.length ≤ n → itemsN ls d none ws = some (l, z) → z = []
  | n, [], z, l, _, h => by
    rw [itemsN_nil, if_pos rfl] at h
    exact ((Prod.mk.inj (Option.some.inj h)).2).symm
  | 0, w :: r, z, l, hl, h => by simp at hl
  | n + 1, w :: r, z, l, hl, h => by
    rw [itemsN_cons, if_neg (by simp)] at h
    cases hx : itemN ls d (w :: r) with
    | none => rw [hx] at h; cases h
    | some x =>
      rw [hx] at h
      obtain ⟨i, q⟩ := x
      obtain ⟨k, k0, hk, ek⟩ := itemN_drop hx
      have hq : q.length ≤ n := by rw [ek, List.length_drop]; omega
      have h' : (match itemsN ls d none q with
        | none => none
        | some (l, z) => some (Items.cons i l, z)) = some (l, z) := h
      cases hy : itemsN ls d none q with
      | none => rw [hy] at h'; cases h'
      | some y =>
        rw [hy] at h'
        obtain ⟨l2, z2⟩ := y
        have e4 : z2 = z := (Prod.mk.inj (Option.some.inj h')).2
        subst e4
        exact itemsN_none_rest n q z2 l2 hq hy
end Kn
namespace Kn
open Vbktaa
/-! ### lines behind the cast -/
inductive LineK where
  | off
  | fin
  | row (name : Text) (l : Items)
  | again (t : Form)
  | bad
def kindOf (ls : List Text) (ws : List Text) : LineK :=
  if ws = [word "off"] then .off else if ws = [word "end"] then .fin else match ws with
    | w :: name :: r => if w = word "row" then (if isName name = false ∨ WORDS < ws.length then .bad else match rowIn ls r with
        | none => .bad
        | some l => .row name l) else if w = word "again" ∧ r.isEmpty = true then (match formOf ls name with
        | none => .bad
        | some t => .again t) else .bad
    | _ => .bad
abbrev PRes := (Nat × Nat) ⊕ (Parts × (List Text × (Nat × List (List Text))))
theorem partsIn_nil (ls : List Text) (f n d k : Nat) (names : List Text) : partsIn ls (f + 1) n d k names [] = .inl (n, 6) := by
  rw [partsIn.eq_def]
theorem partsIn_cons (ls : List Text) (f n d k : Nat) (names : List Text) (ws : List Text) (rest : List (List Text)) : partsIn ls (f + 1) n d k names (ws :: rest) = (match kindOf ls ws with
    | .bad => .inl (n, 1)
    | .off => if d = 3 then .inr (.nil, names, n + 1, rest) else .inl (n, 5)
    | .fin => if d = 3 then .inl (n, 5) else .inr (.nil, names, n + 1, rest)
    | .row name l => if names.contains name = true then .inl (n, 2) else if 20 ≤ names.length then .inl (n, 4) else match partsIn ls f (n + 1) d (k + 1) (names ++ [name]) rest with
      | .inl e => .inl e
      | .inr (p, x) => .inr (.cons (.row names.length name l) p, x)
    | .again t => match d with
      | 0 => .inl (n, 4)
      | e + 1 => match partsIn ls f (n + 1) e k names rest with
        | .inl e => .inl e
        | .inr (b, names2, n2, rest2) => match b with
          | .nil => .inl (n, 5)
          | .cons _ _ => match partsIn ls f n2 d k names2 rest2 with
            | .inl e => .inl e
            | .inr (p, x) => .inr (.cons (.again t b) p, x) : PRes) := by
  rw [partsIn.eq_def]
  dsimp only
  unfold kindOf
  by_cases h1 : ws = [word "off"]
  · rw [if_pos h1, if_pos h1]; rfl
  · rw [if_neg h1, if_neg h1]
    by_cases h2 : ws = [word "end"]
    · rw [if_pos h2, if_pos h2]; rfl
    · rw [if_neg h2, if_neg h2]
      cases ws with
      | nil => rfl
      | cons w q =>
        cases q with
        | nil => rfl
        | cons name r =>
          dsimp only
          by_cases h3 : w = word "row"
          · rw [if_pos h3, if_pos h3]
            by_cases h4 : isName name = false ∨ WORDS < (w :: name :: r).length
            · rw [if_pos h4, if_pos h4]
            · rw [if_neg h4, if_neg h4]
              cases rowIn ls r with
              | none => rfl
              | some l =>
                dsimp only
                rfl
          · rw [if_neg h3, if_neg h3]
            by_cases h4 : w = word "again" ∧ r.isEmpty = true
            · rw [if_pos h4, if_pos h4]
              cases formOf ls name with
              | none => rfl
              | some t =>
                dsimp only
                cases d with
                | zero => rfl
                | succ e =>
                  dsimp only
                  cases partsIn ls f (n + 1) e k names rest with
                  | inl x => rfl
                  | inr x =>
                    obtain ⟨b, names2, n2, rest2⟩ := x
                    cases b with
                    | nil => rfl
                    | cons _ _ => rfl
            · rw [if_neg h4, if_neg h4]
/-- what is read on is a rest, and neither the number for how much may be read nor the count matters -/
theorem parts_fuel (ls : List Text) : ∀ (m : Nat) (lines : List (List Text)), lines.length ≤ m → ∀ (f g n d k k' : Nat) (names : List Text), lines.length + 1 ≤ f → lines.length + 1 ≤ g →
    partsIn ls f n d k names lines = partsIn ls g n d k' names lines ∧ ∀ p nm n2 rest, partsIn ls f n d k names lines = .inr (p, nm, n2, rest) → rest.length < lines.length := by
  intro m
  induction m with
  | zero =>
    intro lines h f g n d k k' names hf hg
    have e : lines = [] := List.eq_nil_of_length_eq_zero (by omega)
    subst e
    obtain ⟨f, rfl⟩ : ∃ k, f = k + 1 := ⟨f - 1, by omega⟩
    obtain ⟨g, rfl⟩ : ∃ k, g = k + 1 := ⟨g - 1, by omega⟩
    rw [partsIn_nil, partsIn_nil]
    exact ⟨rfl, fun p nm n2 rest h => by cases h⟩
  | succ m ih =>
    intro lines h f g n d k k' names hf hg
    obtain ⟨f, rfl⟩ : ∃ k, f = k + 1 := ⟨f - 1, by omega⟩
    obtain ⟨g, rfl⟩ : ∃ k, g = k + 1 := ⟨g - 1, by omega⟩
    cases lines with
    | nil =>
      rw [partsIn_nil, partsIn_nil]
      exact ⟨rfl, fun p nm n2 rest h => by cases h⟩
    | cons ws rest =>
      rw [List.length_cons] at h hf hg
      rw [partsIn_cons, partsIn_cons]
      cases kindOf ls ws with
      | bad => exact ⟨rfl, fun p nm n2 rest h => by cases h⟩
      | off =>
        refine ⟨rfl, fun p nm n2 rest' h => ?_⟩
        have h' : (if d = 3 then Sum.inr (Parts.nil, names, n + 1, rest) else Sum.inl (n, 5) : PRes) = .inr (p, nm, n2, rest') := h
        by_cases e : d = 3
        · rw [if_pos e] at h'
          injection h' with e2
          obtain ⟨_, _, _, e5⟩ := e2
          simp
        · rw [if_neg e] at h'; cases h'
      | fin =>
        refine ⟨rfl, fun p nm n2 rest' h => ?_⟩
        have h' : (if d = 3 then Sum.inl (n, 5) else Sum.inr (Parts.nil, names, n + 1, rest) : PRes) = .inr (p, nm, n2, rest') := h
        by_cases e : d = 3
        · rw [if_pos e] at h'; cases h'
        · rw [if_neg e] at h'
          injection h' with e2
          obtain ⟨_, _, _, e5⟩ := e2
          simp
      | row name l =>
        dsimp only
        by_cases h1 : names.contains name = true
        · rw [if_pos h1, if_pos h1]
          exact ⟨rfl, fun p nm n2 rest h => by cases h⟩
        · rw [if_neg h1, if_neg h1]
          by_cases h2 : 20 ≤ names.length
          · rw [if_pos h2, if_pos h2]
            exact ⟨rfl, fun p nm n2 rest h => by cases h⟩
          · rw [if_neg h2, if_neg h2]
            obtain ⟨e, sz⟩ := ih rest (by omega) f g (n + 1) d (k + 1) (k' + 1) (names ++ [name]) (by omega) (by omega)
            rw [← e]
            refine ⟨rfl, fun p nm n2 rest' h => ?_⟩
            cases hx : partsIn ls f (n + 1) d (k + 1) (names ++ [name]) rest with
            | inl x => rw [hx] at h; cases h
            | inr x =>
              rw [hx] at h
              obtain ⟨p1, nm1, n1, r1⟩ := x
              have := sz p1 nm1 n1 r1 hx
              injection h with e2
              obtain ⟨_, _, _, e5⟩ := e2
              rw [List.length_cons]; omega
      | again t =>
        dsimp only
        cases d with
        | zero => exact ⟨rfl, fun p nm n2 rest h => by cases h⟩
        | succ e =>
          dsimp only
          obtain ⟨e1, sz⟩ := ih rest (by omega) f g (n + 1) e k k' names (by omega) (by omega)
          rw [← e1]
          cases hx : partsIn ls f (n + 1) e k names rest with
          | inl x => exact ⟨rfl, fun p nm n2 rest h => by cases h⟩
          | inr x =>
            obtain ⟨b, nm1, n1, r1⟩ := x
            have s1 := sz b nm1 n1 r1 hx
            cases b with
            | nil => exact ⟨rfl, fun p nm n2 rest h => by cases h⟩
            | cons b1 b2 =>
              dsimp only
              obtain ⟨e2, sz2⟩ := ih r1 (by omega) f g n1 (e + 1) k k' nm1 (by omega) (by omega)
              rw [← e2]
              refine ⟨rfl, fun p nm n2 rest' h => ?_⟩
              cases hy : partsIn ls f n1 (e + 1) k nm1 r1 with
              | inl x => rw [hy] at h; cases h
              | inr x =>
                rw [hy] at h
                obtain ⟨p3, nm3, n3, r3⟩ := x
                have := sz2 p3 nm3 n3 r3 hy
                injection h with e2
                obtain ⟨_, _, _, e5⟩ := e2
                rw [List.length_cons]; omega
def partsN (ls : List Text) (n d : Nat) (names : List Text) (lines : List (List Text)) : PRes := partsIn ls (lines.length + 1) n d 0 names lines
theorem partsN_is {ls : List Text} {f n d k : Nat} {names : List Text} {lines : List (List Text)} (h : lines.length + 1 ≤ f) : partsIn ls f n d k names lines = partsN ls n d names lines :=
  (parts_fuel ls lines.length lines (Nat.le_refl _) f (lines.length + 1) n d k 0 names h (Nat.le_refl _)).1
theorem partsN_nil (ls : List Text) (n d : Nat) (names : List Text) : partsN ls n d names [] = .inl (n, 6) := partsIn_nil ls 0 n d 0 names
theorem partsN_cons (ls : List Text) (n d : Nat) (names : List Text) (ws : List Text) (rest : List (List Text)) : partsN ls n d names (ws :: rest) = (match kindOf ls ws with
    | .bad => .inl (n, 1)
    | .off => if d = 3 then .inr (.nil, names, n + 1, rest) else .inl (n, 5)
    | .fin => if d = 3 then .inl (n, 5) else .inr (.nil, names, n + 1, rest)
    | .row name l => if names.contains name = true then .inl (n, 2) else if 20 ≤ names.length then .inl (n, 4) else match partsN ls (n + 1) d (names ++ [name]) rest with
      | .inl e => .inl e
      | .inr (p, x) => .inr (.cons (.row names.length name l) p, x)
    | .again t => match d with
      | 0 => .inl (n, 4)
      | e + 1 => match partsN ls (n + 1) e names rest with
        | .inl e => .inl e
        | .inr (b, names2, n2, rest2) => match b with
          | .nil => .inl (n, 5)
          | .cons _ _ => match partsN ls n2 d names2 rest2 with
            | .inl e => .inl e
            | .inr (p, x) => .inr (.cons (.again t b) p, x) : PRes) := by
  have e0 : partsN ls n d names (ws :: rest) = partsIn ls (rest.length + 1 + 1) n d 0 names (ws :: rest) := rfl
  rw [e0, partsIn_cons]
  cases kindOf ls ws with
  | bad => rfl
  | off => rfl
  | fin => rfl
  | row name l =>
    dsimp only
    rw [partsN_is (Nat.le_refl _)]
    rfl
  | again t =>
    dsimp only
    cases d with
    | zero => rfl
    | succ e =>
      dsimp only
      rw [partsN_is (Nat.le_refl _)]
      cases hx : partsN ls (n + 1) e names rest with
      | inl x => rfl
      | inr x =>
        obtain ⟨b, nm1, n1, r1⟩ := x
        have hr : r1.length < rest.length := (parts_fuel ls rest.length rest (Nat.le_refl _) (rest.length + 1) (rest.length + 1) (n + 1) e 0 0 names (Nat.le_refl _) (Nat.le_refl _)).2 _ _ _ _ hx
        cases b with
        | nil => rfl
        | cons b1 b2 =>
          dsimp only
          rw [partsN_is (by omega)]
          rfl
/-! ### the machine: blocks that are open, the last one first -/
def appP : Parts → Parts → Parts
  | .nil, m => m
  | .cons p r, m => .cons p (appP r m)
theorem appP_nil : ∀ (l : Parts), appP l .nil = l
  | .nil => rfl
  | .cons p r => congrArg (Parts.cons p) (appP_nil r)
theorem appP_assoc : ∀ (a b c : Parts), appP (appP a b) c = appP a (appP b c)
  | .nil, _, _ => rfl
  | .cons p r, b, c => congrArg (Parts.cons p) (appP_assoc r b c)
structure Blk where
  line : Nat
  parts : Parts
  form : Form
/-- the rows and blocks so far: of the whole, and of the blocks that are open, the innermost first -/
structure Open where
  blks : List Blk
  base : Parts
/-- a part more, in the innermost -/
def Open.push (o : Open) (p : Part) : Open := match o.blks with
  | [] => ⟨[], appP o.base (.cons p .nil)⟩
  | b :: r => ⟨{ b with parts := appP b.parts (.cons p .nil) } :: r, o.base⟩
/-- what comes of the lines that are left -/
def goOn (ls : List Text) : List Blk → Parts → Nat → List Text → List (List Text) → (Nat × Nat) ⊕ Parts
  | [], base, n, names, lines => match partsN ls n 3 names lines with
    | .inl e => .inl e
    | .inr (p, _, m, more) => match appP base p with
      | .nil => .inl (m - 1, 5)
      | .cons a b => if more.isEmpty = true then .inr (.cons a b) else .inl (m, 5)
  | k :: st, base, n, names, lines => match partsN ls n (3 - (st.length + 1)) names lines with
    | .inl e => .inl e
    | .inr (b, names2, n2, rest2) => match appP k.parts b with
      | .nil => .inl (k.line, 5)
      | .cons a c => goOn ls (Open.push ⟨st, base⟩ (.again k.form (.cons a c))).blks (Open.push ⟨st, base⟩ (.again k.form (.cons a c))).base n2 names2 rest2
  termination_by st => st.length
  decreasing_by
    cases st with
    | nil => simp [Open.push]
    | cons b r => simp [Open.push]
theorem goOn_base (ls : List Text) (base : Parts) (n : Nat) (names : List Text) (lines : List (List Text)) : goOn ls [] base n names lines = match partsN ls n 3 names lines with
    | .inl e => .inl e
    | .inr (p, _, m, more) => match appP base p with
      | .nil => .inl (m - 1, 5)
      | .cons a b => if more.isEmpty = true then .inr (.cons a b) else .inl (m, 5) := by
  rw [goOn]
theorem goOn_blk (ls : List Text) (k : Blk) (st : List Blk) (base : Parts) (n : Nat) (names : List Text) (lines : List (List Text)) : goOn ls (k :: st) base n names lines = match partsN ls n (3 - (st.length + 1)) names lines with
    | .inl e => .inl e
    | .inr (b, names2, n2, rest2) => match appP k.parts b with
      | .nil => .inl (k.line, 5)
      | .cons a c => goOn ls (Open.push ⟨st, base⟩ (.again k.form (.cons a c))).blks (Open.push ⟨st, base⟩ (.again k.form (.cons a c))).base n2 names2 rest2 := by
  rw [goOn]
theorem goOn_inl {ls : List Text} {st : List Blk} {base : Parts} {n : Nat} {names : List Text} {lines : List (List Text)} {e : Nat × Nat} (h : partsN ls n (3 - st.length) names lines = .inl e) : goOn ls st base n names lines = .inl e := by
  cases st with
  | nil => rw [goOn_base, show partsN ls n 3 names lines = .inl e from h]
  | cons k st => rw [goOn_blk, show partsN ls n (3 - (st.length + 1)) names lines = .inl e from h]
/-- a part is read, and the lines go on -/
theorem goOn_push {ls : List Text} {st : List Blk} {base : Parts} {n n' : Nat} {names names' : List Text} {lines lines' : List (List Text)} {p : Part}
    (h : partsN ls n (3 - st.length) names lines = match partsN ls n' (3 - st.length) names' lines' with
      | .inl e => .inl e
      | .inr (q, x) => .inr (.cons p q, x)) : goOn ls st base n names lines = goOn ls (Open.push ⟨st, base⟩ p).blks (Open.push ⟨st, base⟩ p).base n' names' lines' := by
  cases st with
  | nil =>
    show _ = goOn ls [] (appP base (.cons p .nil)) n' names' lines'
    rw [goOn_base, goOn_base, show partsN ls n 3 names lines = _ from h]
    have e3 : partsN ls n' (3 - ([] : List Blk).length) names' lines' = partsN ls n' 3 names' lines' := rfl
    rw [e3]
    cases partsN ls n' 3 names' lines' with
    | inl e => rfl
    | inr x =>
      obtain ⟨q, nm, m, more⟩ := x
      dsimp only
      rw [appP_assoc]; rfl
  | cons k st =>
    show _ = goOn ls ({ k with parts := appP k.parts (.cons p .nil) } :: st) base n' names' lines'
    rw [goOn_blk, goOn_blk, show partsN ls n (3 - (st.length + 1)) names lines = _ from h]
    have e3 : partsN ls n' (3 - (k :: st).length) names' lines' = partsN ls n' (3 - (st.length + 1)) names' lines' := rfl
    rw [e3]
    cases partsN ls n' (3 - (st.length + 1)) names' lines' with
    | inl e => rfl
    | inr x =>
      obtain ⟨q, nm, m, more⟩ := x
      dsimp only
      rw [appP_assoc]; rfl
theorem goOn_nil (ls : List Text) (st : List Blk) (base : Parts) (n : Nat) (names : List Text) : goOn ls st base n names [] = .inl (n, 6) := goOn_inl (partsN_nil ls n _ names)
/-- a line -/
def stepB (ls : List Text) (n : Nat) (o : Open) (names : List Text) (ws : List Text) : (Nat × Nat) ⊕ (Open × List Text × Bool) := match kindOf ls ws with
  | .bad => .inl (n, 1)
  | .off => if o.blks ≠ [] then .inl (n, 5) else match o.base with
    | .nil => .inl (n, 5)
    | .cons _ _ => .inr (o, names, true)
  | .fin => match o.blks with
    | [] => .inl (n, 5)
    | b :: r => match b.parts with
      | .nil => .inl (b.line, 5)
      | .cons x y => .inr (Open.push ⟨r, o.base⟩ (.again b.form (.cons x y)), names, false)
  | .row name l => if names.contains name = true then .inl (n, 2) else if 20 ≤ names.length then .inl (n, 4) else .inr (o.push (.row names.length name l), names ++ [name], false)
  | .again t => if o.blks.length = 3 then .inl (n, 4) else .inr (⟨⟨n, .nil, t⟩ :: o.blks, o.base⟩, names, false)
/-- behind a line: the lines go on, or the last line was read -/
def behind (ls : List Text) (n : Nat) (x : (Nat × Nat) ⊕ (Open × List Text × Bool)) (rest : List (List Text)) : (Nat × Nat) ⊕ Parts := match x with
  | .inl e => .inl e
  | .inr (o, names, true) => if rest.isEmpty = true then .inr o.base else .inl (n, 5)
  | .inr (o, names, false) => goOn ls o.blks o.base n names rest
theorem goOn_cons (ls : List Text) (st : List Blk) (base : Parts) (n : Nat) (names : List Text) (ws : List Text) (rest : List (List Text)) (hst : st.length ≤ 3) :
    goOn ls st base n names (ws :: rest) = behind ls (n + 1) (stepB ls n ⟨st, base⟩ names ws) rest := by
  unfold stepB
  have hc := partsN_cons ls n (3 - st.length) names ws rest
  cases hk : kindOf ls ws with
  | bad =>
    rw [hk] at hc
    exact goOn_inl hc
  | off =>
    rw [hk] at hc
    dsimp only at hc ⊢
    cases st with
    | nil =>
      have hc' : partsN ls n 3 names (ws :: rest) = .inr (.nil, names, n + 1, rest) := hc
      rw [goOn_base, hc']
      dsimp only
      rw [appP_nil, if_neg (by simp)]
      cases base with
      | nil => rfl
      | cons a b => rfl
    | cons k st =>
      have h3 : ¬ (3 - (k :: st).length = 3) := by rw [List.length_cons]; omega
      rw [if_neg h3] at hc
      rw [goOn_inl hc, if_pos (by simp)]; rfl
  | fin =>
    rw [hk] at hc
    dsimp only at hc ⊢
    cases st with
    | nil =>
      rw [if_pos (show 3 - ([] : List Blk).length = 3 from rfl)] at hc
      rw [goOn_inl hc]; rfl
    | cons k st =>
      have h3 : ¬ (3 - (k :: st).length = 3) := by rw [List.length_cons]; omega
      rw [if_neg h3] at hc
      have hc' : partsN ls n (3 - (st.length + 1)) names (ws :: rest) = .inr (.nil, names, n + 1, rest) := hc
      rw [goOn_blk, hc']
      dsimp only
      rw [appP_nil]
      cases k.parts with
      | nil => rfl
      | cons x y => rfl
  | row name l =>
    rw [hk] at hc
    dsimp only at hc ⊢
    by_cases h1 : names.contains name = true
    · rw [if_pos h1] at hc
      rw [goOn_inl hc, if_pos h1]; rfl
    · rw [if_neg h1] at hc
      by_cases h2 : 20 ≤ names.length
      · rw [if_pos h2] at hc
        rw [goOn_inl hc, if_neg h1, if_pos h2]; rfl
      · rw [if_neg h2] at hc
        rw [goOn_push hc, if_neg h1, if_neg h2]; rfl
  | again t =>
    rw [hk] at hc
    dsimp only at hc ⊢
    by_cases h3 : st.length = 3
    · have hd : 3 - st.length = 0 := by omega
      rw [hd] at hc
      rw [goOn_inl (by rw [hd]; exact hc), if_pos h3]; rfl
    · rw [if_neg h3]
      obtain ⟨e, he⟩ : ∃ e, 3 - st.length = e + 1 := ⟨3 - st.length - 1, by omega⟩
      have he2 : 3 - (st.length + 1) = e := by omega
      rw [he] at hc
      dsimp only at hc
      show _ = goOn ls (⟨n, .nil, t⟩ :: st) base (n + 1) names rest
      rw [goOn_blk, he2]
      cases hx : partsN ls (n + 1) e names rest with
      | inl x =>
        rw [hx] at hc
        exact goOn_inl (by rw [he]; exact hc)
      | inr x =>
        obtain ⟨b, nm1, n1, r1⟩ := x
        rw [hx] at hc
        dsimp only at hc ⊢
        cases b with
        | nil => exact goOn_inl (by rw [he]; exact hc)
        | cons b1 b2 =>
          dsimp only at hc
          show goOn ls st base n names (ws :: rest) = goOn ls (Open.push ⟨st, base⟩ (.again t (.cons b1 b2))).blks (Open.push ⟨st, base⟩ (.again t (.cons b1 b2))).base n1 nm1 r1
          exact goOn_push (by rw [he]; exact hc)
end Kn
namespace Kn
open Vbktaa
/-! ### knitting a row: the number that only sees to an end doesn't matter -/
abbrev RR := Except Nat Run
theorem runItem_zero (v : List Int) (i : Item) (r : Run) : runItem v 0 i r = .error 5 := by rw [runItem.eq_def]
theorem runItem_succ (v : List Int) (f : Nat) (i : Item) (r : Run) : runItem v (f + 1) i r = if r.left = 0 then .error 5 else match i with
    | .st s t => if value v t < 0 then .error 1 else if ((r.left - 1 : Nat) : Int) < value v t then .error 5 else if r.rem < (value v t).toNat * uses s then .error 3 else .ok { rem := r.rem - (value v t).toNat * uses s, out := List.replicate (value v t).toNat s ++ r.out, left := r.left - 1 - (value v t).toNat }
    | .group l t => if value v t < 0 then .error 1 else if ((r.left - 1 : Nat) : Int) < value v t then .error 5 else runTimes v f l (value v t).toNat { r with left := r.left - 1 }
    | .fill l t => if value v t < 0 then .error 1 else if (r.rem : Int) < value v t then .error 2 else runFill v f l (value v t).toNat { r with left := r.left - 1 } := by
  rw [runItem.eq_def]
  cases i <;> rfl
theorem runTimes_zero (v : List Int) (l : Items) (k : Nat) (r : Run) : runTimes v 0 l k r = .error 5 := by rw [runTimes.eq_def]
theorem runTimes_none (v : List Int) (f : Nat) (l : Items) (r : Run) : runTimes v (f + 1) l 0 r = .ok r := by rw [runTimes.eq_def]
theorem runTimes_succ (v : List Int) (f : Nat) (l : Items) (k : Nat) (r : Run) : runTimes v (f + 1) l (k + 1) r = (runItems v f l r).bind fun q => runTimes v f l k q := by rw [runTimes.eq_def]
theorem runFill_zero (v : List Int) (l : Items) (n : Nat) (r : Run) : runFill v 0 l n r = .error 5 := by rw [runFill.eq_def]
theorem runFill_succ (v : List Int) (f : Nat) (l : Items) (n : Nat) (r : Run) : runFill v (f + 1) l n r = if r.rem = n then .ok r else (runItems v f l r).bind fun q => if q.rem < n ∨ q.rem = r.rem then .error 2 else runFill v f l n q := by rw [runFill.eq_def]
theorem runItems_zero (v : List Int) (l : Items) (r : Run) : runItems v 0 l r = .error 5 := by rw [runItems.eq_def]
theorem runItems_nil (v : List Int) (f : Nat) (r : Run) : runItems v (f + 1) .nil r = .ok r := by rw [runItems.eq_def]
theorem runItems_cons (v : List Int) (f : Nat) (i : Item) (l : Items) (r : Run) : runItems v (f + 1) (.cons i l) r = (runItem v f i r).bind fun q => runItems v f l q := by rw [runItems.eq_def]
theorem bind_ok {α β ε : Type} {x : Except ε α} {f : α → Except ε β} {b : β} (h : x.bind f = .ok b) : ∃ a, x = .ok a ∧ f a = .ok b := by
  cases x with
  | error e => cases h
  | ok a => exact ⟨a, rfl, h⟩
/-- items that are none -/
def isNil : Items → Bool
  | .nil => true
  | .cons _ _ => false
theorem times_nil (v : List Int) : ∀ (k f : Nat) (r : Run), k < f → runTimes v f .nil k r = .ok r
  | k, 0, _, h => by omega
  | 0, f + 1, r, _ => runTimes_none v f .nil r
  | k + 1, f + 1, r, h => by
    rw [runTimes_succ]
    obtain ⟨f, rfl⟩ : ∃ g, f = g + 1 := ⟨f - 1, by omega⟩
    rw [runItems_nil]
    exact times_nil v k (f + 1) r (by omega)
/-- what is asked of the number, and what becomes of the steps that are left -/
structure FuelAt (v : List Int) (L : Nat) : Prop where
  items : ∀ (l : Items) (r : Run), r.left = L → ∀ f g, 3 * L + 1 ≤ f → 3 * L + 1 ≤ g → runItems v f l r = runItems v g l r ∧ ∀ q, runItems v f l r = .ok q → q.left ≤ L ∧ (isNil l = false → q.left < L)
  times : ∀ (l : Items) (r : Run), r.left = L → ∀ k, k ≤ L → ∀ f g, 3 * L + 2 ≤ f → 3 * L + 2 ≤ g → runTimes v f l k r = runTimes v g l k r ∧ ∀ q, runTimes v f l k r = .ok q → q.left ≤ L
  fill : ∀ (l : Items) (r : Run), r.left = L → ∀ n f g, 3 * L + 2 ≤ f → 3 * L + 2 ≤ g → runFill v f l n r = runFill v g l n r ∧ ∀ q, runFill v f l n r = .ok q → q.left ≤ L
theorem item_step {v : List Int} {L : Nat} (ih : ∀ m, m < L → FuelAt v m) (i : Item) (r : Run) (hr : r.left = L) (f g : Nat) (hf : 3 * L ≤ f) (hg : 3 * L ≤ g) : runItem v f i r = runItem v g i r ∧ ∀ q, runItem v f i r = .ok q → q.left < L := by
  by_cases h0 : r.left = 0
  · have e : ∀ f, runItem v f i r = .error 5 := fun f => by
      cases f with
      | zero => exact runItem_zero v i r
      | succ f => rw [runItem_succ, if_pos h0]
    rw [e f, e g]
    exact ⟨rfl, fun q h => by cases h⟩
  · obtain ⟨f, rfl⟩ : ∃ k, f = k + 1 := ⟨f - 1, by omega⟩
    obtain ⟨g, rfl⟩ : ∃ k, g = k + 1 := ⟨g - 1, by omega⟩
    rw [runItem_succ, runItem_succ, if_neg h0, if_neg h0]
    have A := ih (L - 1) (by omega)
    cases i with
    | st s t =>
      refine ⟨rfl, fun q h => ?_⟩
      dsimp only at h
      by_cases h1 : value v t < 0
      · rw [if_pos h1] at h; cases h
      · rw [if_neg h1] at h
        by_cases h2 : ((r.left - 1 : Nat) : Int) < value v t
        · rw [if_pos h2] at h; cases h
        · rw [if_neg h2] at h
          by_cases h3 : r.rem < (value v t).toNat * uses s
          · rw [if_pos h3] at h; cases h
          · rw [if_neg h3] at h
            injection h with e
            subst e
            show r.left - 1 - _ < L
            omega
    | group l t =>
      dsimp only
      by_cases h1 : value v t < 0
      · rw [if_pos h1, if_pos h1]; exact ⟨rfl, fun q h => by cases h⟩
      · rw [if_neg h1, if_neg h1]
        by_cases h2 : ((r.left - 1 : Nat) : Int) < value v t
        · rw [if_pos h2, if_pos h2]; exact ⟨rfl, fun q h => by cases h⟩
        · rw [if_neg h2, if_neg h2]
          obtain ⟨e, s⟩ := A.times l { r with left := r.left - 1 } (by show r.left - 1 = _; omega) (value v t).toNat (by omega) f g (by omega) (by omega)
          exact ⟨e, fun q h => by have := s q h; omega⟩
    | fill l t =>
      dsimp only
      by_cases h1 : value v t < 0
      · rw [if_pos h1, if_pos h1]; exact ⟨rfl, fun q h => by cases h⟩
      · rw [if_neg h1, if_neg h1]
        by_cases h2 : (r.rem : Int) < value v t
        · rw [if_pos h2, if_pos h2]; exact ⟨rfl, fun q h => by cases h⟩
        · rw [if_neg h2, if_neg h2]
          obtain ⟨e, s⟩ := A.fill l { r with left := r.left - 1 } (by show r.left - 1 = _; omega) (value v t).toNat f g (by omega) (by omega)
          exact ⟨e, fun q h => by have := s q h; omega⟩
theorem fuel_at (v : List Int) : ∀ (L : Nat), FuelAt v L := by
  intro L
  induction L using Nat.strongRecOn with
  | ind L ih =>
    have hitem := item_step (v := v) (L := L) ih
    have hitems : ∀ (l : Items) (r : Run), r.left = L → ∀ f g, 3 * L + 1 ≤ f → 3 * L + 1 ≤ g → runItems v f l r = runItems v g l r ∧ ∀ q, runItems v f l r = .ok q → q.left ≤ L ∧ (isNil l = false → q.left < L) := by
      intro l r hr f g hf hg
      obtain ⟨f, rfl⟩ : ∃ k, f = k + 1 := ⟨f - 1, by omega⟩
      obtain ⟨g, rfl⟩ : ∃ k, g = k + 1 := ⟨g - 1, by omega⟩
      cases l with
      | nil =>
        rw [runItems_nil, runItems_nil]
        refine ⟨rfl, fun q h => ?_⟩
        injection h with e
        subst e
        exact ⟨by omega, fun z => by cases z⟩
      | cons i l =>
        rw [runItems_cons, runItems_cons]
        obtain ⟨e, s⟩ := hitem i r hr f g (by omega) (by omega)
        rw [← e]
        cases hx : runItem v f i r with
        | error x => exact ⟨rfl, fun q h => by cases h⟩
        | ok q =>
          have hq := s q hx
          obtain ⟨e2, s2⟩ := (ih q.left hq).items l q rfl f g (by omega) (by omega)
          refine ⟨e2, fun q2 h => ?_⟩
          have := (s2 q2 h).1
          exact ⟨by omega, fun _ => by omega⟩
    have htimes : ∀ (l : Items) (r : Run), r.left = L → ∀ k, k ≤ L → ∀ f g, 3 * L + 2 ≤ f → 3 * L + 2 ≤ g → runTimes v f l k r = runTimes v g l k r ∧ ∀ q, runTimes v f l k r = .ok q → q.left ≤ L := by
      intro l r hr k hk f g hf hg
      cases l with
      | nil =>
        rw [times_nil v k f r (by omega), times_nil v k g r (by omega)]
        refine ⟨rfl, fun q h => ?_⟩
        injection h with e
        subst e; omega
      | cons i l =>
        obtain ⟨f, rfl⟩ : ∃ k, f = k + 1 := ⟨f - 1, by omega⟩
        obtain ⟨g, rfl⟩ : ∃ k, g = k + 1 := ⟨g - 1, by omega⟩
        cases k with
        | zero =>
          rw [runTimes_none, runTimes_none]
          refine ⟨rfl, fun q h => ?_⟩
          injection h with e
          subst e; omega
        | succ k =>
          rw [runTimes_succ, runTimes_succ]
          obtain ⟨e, s⟩ := hitems (.cons i l) r hr f g (by omega) (by omega)
          rw [← e]
          cases hx : runItems v f (.cons i l) r with
          | error x => exact ⟨rfl, fun q h => by cases h⟩
          | ok q =>
            have hq := (s q hx).2 rfl
            by_cases hk2 : k ≤ q.left
            · obtain ⟨e2, s2⟩ := (ih q.left hq).times (.cons i l) q rfl k hk2 f g (by omega) (by omega)
              refine ⟨e2, fun q2 h => ?_⟩
              have := s2 q2 h
              omega
            · -- more times than steps are left: it can't be done
              have key : ∀ (n : Nat) (r : Run), r.left = n → n < L → ∀ k, n < k → ∀ f, 3 * n + 2 ≤ f → (runTimes v f (.cons i l) k r = .error 5 ∨ ∃ e, runTimes v f (.cons i l) k r = .error e ∧ ∀ g, 3 * n + 2 ≤ g → runTimes v g (.cons i l) k r = .error e) ∧ ∀ g, 3 * n + 2 ≤ g → runTimes v f (.cons i l) k r = runTimes v g (.cons i l) k r := by
                intro n
                induction n using Nat.strongRecOn with
                | ind n ihn =>
                  intro r hr hn k hk f hf
                  have main : ∀ g, 3 * n + 2 ≤ g → (∃ e, runTimes v f (.cons i l) k r = .error e) ∧ runTimes v f (.cons i l) k r = runTimes v g (.cons i l) k r := by
                    intro g hg
                    obtain ⟨f, rfl⟩ : ∃ k, f = k + 1 := ⟨f - 1, by omega⟩
                    obtain ⟨g, rfl⟩ : ∃ k, g = k + 1 := ⟨g - 1, by omega⟩
                    obtain ⟨k, rfl⟩ : ∃ j, k = j + 1 := ⟨k - 1, by omega⟩
                    rw [runTimes_succ, runTimes_succ]
                    obtain ⟨e, s⟩ := (ih n hn).items (.cons i l) r hr f g (by omega) (by omega)
                    rw [← e]
                    cases hx : runItems v f (.cons i l) r with
                    | error x => exact ⟨⟨x, rfl⟩, rfl⟩
                    | ok q =>
                      have hq := (s q hx).2 rfl
                      have hh := ihn q.left hq q rfl (by omega) k (by omega) f (by omega)
                      refine ⟨?_, hh.2 g (by omega)⟩
                      rcases hh.1 with z | ⟨e, z, _⟩
                      · exact ⟨5, z⟩
                      · exact ⟨e, z⟩
                  obtain ⟨⟨e, he⟩, _⟩ := main f hf
                  exact ⟨.inr ⟨e, he, fun g hg => by rw [← (main g hg).2]; exact he⟩, fun g hg => (main g hg).2⟩
              have hh := key q.left q rfl hq k (by omega) f (by omega)
              refine ⟨hh.2 g (by omega), fun q2 h => ?_⟩
              rcases hh.1 with z | ⟨e, z, _⟩
              · rw [show (Except.ok q : RR).bind (fun q => runTimes v f (.cons i l) k q) = runTimes v f (.cons i l) k q from rfl, z] at h; cases h
              · rw [show (Except.ok q : RR).bind (fun q => runTimes v f (.cons i l) k q) = runTimes v f (.cons i l) k q from rfl, z] at h; cases h
    refine ⟨hitems, htimes, ?_⟩
    intro l r hr n f g hf hg
    obtain ⟨f, rfl⟩ : ∃ k, f = k + 1 := ⟨f - 1, by omega⟩
    obtain ⟨g, rfl⟩ : ∃ k, g = k + 1 := ⟨g - 1, by omega⟩
    rw [runFill_succ, runFill_succ]
    by_cases h1 : r.rem = n
    · rw [if_pos h1, if_pos h1]
      refine ⟨rfl, fun q h => ?_⟩
      injection h with e
      subst e; omega
    · rw [if_neg h1, if_neg h1]
      obtain ⟨e, s⟩ := hitems l r hr f g (by omega) (by omega)
      rw [← e]
      cases hx : runItems v f l r with
      | error x => exact ⟨rfl, fun q h => by cases h⟩
      | ok q =>
        show (if q.rem < n ∨ q.rem = r.rem then (.error 2 : RR) else runFill v f l n q) = (if q.rem < n ∨ q.rem = r.rem then .error 2 else runFill v g l n q) ∧ ∀ q2, (if q.rem < n ∨ q.rem = r.rem then (.error 2 : RR) else runFill v f l n q) = .ok q2 → _
        by_cases h2 : q.rem < n ∨ q.rem = r.rem
        · rw [if_pos h2, if_pos h2]
          exact ⟨rfl, fun q h => by cases h⟩
        · rw [if_neg h2, if_neg h2]
          have hl : isNil l = false := by
            cases l with
            | cons i l => rfl
            | nil =>
              exfalso
              obtain ⟨f, rfl⟩ : ∃ k, f = k + 1 := ⟨f - 1, by omega⟩
              rw [runItems_nil] at hx
              injection hx with e
              exact h2 (.inr (by rw [e]))
          have hq := (s q hx).2 hl
          obtain ⟨e2, s2⟩ := (ih q.left hq).fill l q rfl n f g (by omega) (by omega)
          refine ⟨e2, fun q2 h => ?_⟩
          have := s2 q2 h
          omega
end Kn
namespace Kn
open Vbktaa
/-- a line's end set behind -/
def tail10 {α : Type} (x : Option (α × List Text)) : Option (α × List Text) := x.map fun y => (y.1, y.2 ++ [[10]])
theorem times_tail {ls : List Nat} (h : 10 ∉ ls) (mk : Form → Item) (z : List Text) : timesIn (lets ls) mk (z ++ [[10]]) = tail10 (timesIn (lets ls) mk z) := by
  have e10 : formOf (lets ls) [10] = none := formI_newline ls h
  cases z with
  | nil =>
    show timesIn (lets ls) mk [[10]] = _
    unfold timesIn
    simp only [e10]
    rfl
  | cons t q =>
    show timesIn (lets ls) mk (t :: (q ++ [[10]])) = _
    unfold timesIn
    dsimp only
    cases e : formOf (lets ls) t with
    | none => rfl
    | some f => rfl
theorem fill_tail {ls : List Nat} (h : 10 ∉ ls) (mk : Form → Item) (z : List Text) : fillIn (lets ls) mk (z ++ [[10]]) = tail10 (fillIn (lets ls) mk z) := by
  have e10 : formOf (lets ls) [10] = none := formI_newline ls h
  match z with
  | [] => rfl
  | [to] =>
    show fillIn (lets ls) mk [to, [10]] = _
    unfold fillIn
    simp only [e10]
    by_cases c : to = word "to"
    · rw [if_pos c]; rfl
    · rw [if_neg c]; rfl
  | to :: t :: q =>
    show fillIn (lets ls) mk (to :: t :: (q ++ [[10]])) = _
    unfold fillIn
    dsimp only
    by_cases c : to = word "to"
    · rw [if_pos c, if_pos c]
      cases e : formOf (lets ls) t with
      | none => rfl
      | some f => rfl
    · rw [if_neg c, if_neg c]; rfl
theorem items_tail {ls : List Nat} (h : 10 ∉ ls) : ∀ (n : Nat) (ws : List Text), ws.length ≤ n → [10] ∉ ws → ∀ d,
    itemN (lets ls) d (ws ++ [[10]]) = tail10 (itemN (lets ls) d ws) ∧
    (∀ c : Text, c ≠ [10] → itemsN (lets ls) d (some c) (ws ++ [[10]]) = tail10 (itemsN (lets ls) d (some c) ws)) ∧
    itemsN (lets ls) d (some [10]) (ws ++ [[10]]) = itemsN (lets ls) d none ws := by
  intro n
  induction n with
  | zero =>
    intro ws hl hn d
    have e : ws = [] := List.eq_nil_of_length_eq_zero (by omega)
    subst e
    have i0 : itemN (lets ls) d [[10]] = none := by
      rw [itemN_cons, if_neg (by decide), if_neg (by decide), show idxOf NAMES [10] = none by decide]
    refine ⟨?_, fun c hc => ?_, ?_⟩
    · show itemN (lets ls) d [[10]] = _
      rw [i0, itemN_nil]; rfl
    · show itemsN (lets ls) d (some c) [[10]] = _
      rw [itemsN_cons, if_neg (fun z => hc (Option.some.inj z).symm), i0, itemsN_nil, if_neg (by simp)]; rfl
    · show itemsN (lets ls) d (some [10]) [[10]] = _
      rw [itemsN_stop, itemsN_nil, if_pos rfl]
  | succ n ih =>
    intro ws hl hn d
    cases ws with
    | nil => exact ih [] (by simp) hn d
    | cons w r =>
      have hr : r.length ≤ n := by simp at hl; omega
      have hnr : [10] ∉ r := fun z => hn (List.mem_cons_of_mem _ z)
      have hw : w ≠ [10] := fun z => hn (z ▸ List.mem_cons_self ..)
      have eI : itemN (lets ls) d ((w :: r) ++ [[10]]) = tail10 (itemN (lets ls) d (w :: r)) := by
        show itemN (lets ls) d (w :: (r ++ [[10]])) = _
        rw [itemN_cons, itemN_cons]
        by_cases c1 : w = OPEN
        · rw [if_pos c1, if_pos c1]
          cases d with
          | zero => rfl
          | succ d =>
            have := (ih r hr hnr d).2.1 SHUT (by decide)
            dsimp only
            rw [this]
            cases itemsN (lets ls) d (some SHUT) r with
            | none => rfl
            | some x =>
              obtain ⟨l, z⟩ := x
              cases l with
              | nil => rfl
              | cons i l => exact times_tail h _ z
        · rw [if_neg c1, if_neg c1]
          by_cases c2 : w = BEGIN
          · rw [if_pos c2, if_pos c2]
            cases d with
            | zero => rfl
            | succ d =>
              have := (ih r hr hnr d).2.1 END (by decide)
              dsimp only
              rw [this]
              cases itemsN (lets ls) d (some END) r with
              | none => rfl
              | some x =>
                obtain ⟨l, z⟩ := x
                cases l with
                | nil => rfl
                | cons i l => exact fill_tail h _ z
          · rw [if_neg c2, if_neg c2]
            cases idxOf NAMES w with
            | none => rfl
            | some s => exact times_tail h _ r
      refine ⟨eI, fun c hc => ?_, ?_⟩
      · show itemsN (lets ls) d (some c) (w :: (r ++ [[10]])) = _
        by_cases cw : some w = some c
        · rw [itemsN_cons, itemsN_cons, if_pos cw, if_pos cw]; rfl
        · cases ex : itemN (lets ls) d (w :: r) with
          | none =>
            rw [itemsN_fail cw ex, itemsN_fail cw (by
              have := eI
              rw [ex] at this
              exact this)]
            rfl
          | some x =>
            obtain ⟨i, q⟩ := x
            obtain ⟨k, k0, hk, ek⟩ := itemN_drop ex
            have hq : q.length ≤ n := by rw [ek, List.length_drop]; omega
            have hnq : [10] ∉ q := fun z => hn (by rw [ek] at z; exact List.mem_of_mem_drop z)
            have eI2 : itemN (lets ls) d (w :: (r ++ [[10]])) = some (i, q ++ [[10]]) := by
              have := eI
              rw [ex] at this
              exact this
            rw [itemsN_step cw ex, itemsN_step cw eI2, (ih q hq hnq d).2.1 c hc]
            cases itemsN (lets ls) d (some c) q with
            | none => rfl
            | some y => rfl
      · show itemsN (lets ls) d (some [10]) (w :: (r ++ [[10]])) = _
        have cw : some w ≠ some [10] := fun z => hw (Option.some.inj z)
        have cw2 : some w ≠ none := fun z => nomatch z
        cases ex : itemN (lets ls) d (w :: r) with
        | none =>
          rw [itemsN_fail cw2 ex, itemsN_fail cw (by
            have := eI
            rw [ex] at this
            exact this)]
        | some x =>
          obtain ⟨i, q⟩ := x
          obtain ⟨k, k0, hk, ek⟩ := itemN_drop ex
          have hq : q.length ≤ n := by rw [ek, List.length_drop]; omega
          have hnq : [10] ∉ q := fun z => hn (by rw [ek] at z; exact List.mem_of_mem_drop z)
          have eI2 : itemN (lets ls) d (w :: (r ++ [[10]])) = some (i, q ++ [[10]]) := by
            have := eI
            rw [ex] at this
            exact this
          rw [itemsN_step cw2 ex, itemsN_step cw eI2, (ih q hq hnq d).2.2]
/-- a row's items, read from the words with a line's end behind -/
theorem rowIn_tail {ls : List Nat} (h : 10 ∉ ls) {ws : List Text} (hn : [10] ∉ ws) : rowIn (lets ls) ws = match itemsN (lets ls) 3 (some [10]) (ws ++ [[10]]) with
    | some (.cons i l, _) => some (.cons i l)
    | _ => none := by
  rw [(items_tail h ws.length ws (Nat.le_refl _) hn 3).2.2, rowIn_eq]
  cases e : itemsN (lets ls) 3 none ws with
  | none => rfl
  | some x =>
    obtain ⟨l, z⟩ := x
    have ez := itemsN_none_rest ws.length ws z l (Nat.le_refl _) e
    subst ez
    cases l with
    | nil => rfl
    | cons i l => rfl
/-! ### what is read is good -/
def GoodF (n : Nat) (f : Form) : Prop := f.l.length = n ∧ ∀ a ∈ fL f, a.natAbs ≤ 9999
mutual
def GoodI (n : Nat) : Item → Prop
  | .st s t => s < 8 ∧ GoodF n t
  | .group l t => GoodIs n l ∧ GoodF n t
  | .fill l t => GoodIs n l ∧ GoodF n t
def GoodIs (n : Nat) : Items → Prop
  | .nil => True
  | .cons i r => GoodI n i ∧ GoodIs n r
end
theorem good_one (n : Nat) : GoodF n (sumTerms n [(1, none)]) := by
  refine ⟨by show (List.replicate n (0 : Int)).length = n; simp, fun a ha => ?_⟩
  have e : fL (sumTerms n [(1, none)]) = 1 :: List.replicate n 0 := rfl
  rw [e] at ha
  rcases List.mem_cons.mp ha with z | z
  · rw [z]; decide
  · rw [List.eq_of_mem_replicate z]; decide
theorem good_form {ls : List Nat} {w : Text} {f : Form} (h : formOf (lets ls) w = some f) : GoodF ls.length f := formI_ok (ls := ls) h
theorem times_good {ls : List Nat} {mk : Form → Item} {r : List Text} {x : Item × List Text} (hm : ∀ f, GoodF ls.length f → GoodI ls.length (mk f)) (h : timesIn (lets ls) mk r = some x) : GoodI ls.length x.1 := by
  have hl : (lets ls).length = ls.length := List.length_map _
  unfold timesIn at h
  cases r with
  | nil =>
    simp only at h
    rw [← Option.some.inj h, hl]
    exact hm _ (good_one _)
  | cons t q =>
    simp only at h
    cases e : formOf (lets ls) t with
    | none =>
      rw [e] at h
      rw [← Option.some.inj h, hl]
      exact hm _ (good_one _)
    | some f =>
      rw [e] at h
      rw [← Option.some.inj h]
      exact hm _ (good_form e)
theorem fill_good {ls : List Nat} {mk : Form → Item} {r : List Text} {x : Item × List Text} (hm : ∀ f, GoodF ls.length f → GoodI ls.length (mk f)) (h : fillIn (lets ls) mk r = some x) : GoodI ls.length x.1 := by
  unfold fillIn at h
  match r, h with
  | to :: t :: q, h =>
    simp only at h
    by_cases c : to = word "to"
    · rw [if_pos c] at h
      cases e : formOf (lets ls) t with
      | none => rw [e] at h; cases h
      | some f =>
        rw [e] at h
        rw [← Option.some.inj h]
        exact hm _ (good_form e)
    · rw [if_neg c] at h; cases h
theorem idx_lt {l : List Text} {w : Text} {s : Nat} (h : idxOf l w = some s) : s < l.length := by
  have e : (if (l.findIdx fun x => x == w) < l.length then some (l.findIdx fun x => x == w) else none) = some s := h
  by_cases c : (l.findIdx fun x => x == w) < l.length
  · rw [if_pos c] at e
    rw [← Option.some.inj e]; exact c
  · rw [if_neg c] at e; cases e
theorem items_good {ls : List Nat} : ∀ (n : Nat) (ws : List Text), ws.length ≤ n → ∀ d,
    (∀ i z, itemN (lets ls) d ws = some (i, z) → GoodI ls.length i) ∧ ∀ c l z, itemsN (lets ls) d c ws = some (l, z) → GoodIs ls.length l := by
  intro n
  induction n with
  | zero =>
    intro ws hl d
    have e : ws = [] := List.eq_nil_of_length_eq_zero (by omega)
    subst e
    refine ⟨fun i z h => ?_, fun c l z h => ?_⟩
    · rw [itemN_nil] at h; cases h
    · rw [itemsN_nil] at h
      by_cases c0 : c = none
      · rw [if_pos c0] at h; cases h; trivial
      · rw [if_neg c0] at h; cases h
  | succ n ih =>
    intro ws hl d
    cases ws with
    | nil => exact ih [] (by simp) d
    | cons w r =>
      have hr : r.length ≤ n := by simp at hl; omega
      have hI : ∀ i z, itemN (lets ls) d (w :: r) = some (i, z) → GoodI ls.length i := by
        intro i z h
        rw [itemN_cons] at h
        by_cases c1 : w = OPEN
        · rw [if_pos c1] at h
          cases d with
          | zero => cases h
          | succ d =>
            dsimp only at h
            cases e : itemsN (lets ls) d (some SHUT) r with
            | none => rw [e] at h; cases h
            | some x =>
              obtain ⟨l, z'⟩ := x
              rw [e] at h
              cases l with
              | nil => cases h
              | cons j l => exact times_good (mk := .group (.cons j l)) (x := (i, z)) (fun f hf => ⟨(ih r hr d).2 _ _ _ e, hf⟩) h
        · rw [if_neg c1] at h
          by_cases c2 : w = BEGIN
          · rw [if_pos c2] at h
            cases d with
            | zero => cases h
            | succ d =>
              dsimp only at h
              cases e : itemsN (lets ls) d (some END) r with
              | none => rw [e] at h; cases h
              | some x =>
                obtain ⟨l, z'⟩ := x
                rw [e] at h
                cases l with
                | nil => cases h
                | cons j l => exact fill_good (mk := .fill (.cons j l)) (x := (i, z)) (fun f hf => ⟨(ih r hr d).2 _ _ _ e, hf⟩) h
          · rw [if_neg c2] at h
            cases e : idxOf NAMES w with
            | none => rw [e] at h; cases h
            | some s =>
              rw [e] at h
              exact times_good (mk := .st s) (x := (i, z)) (fun f hf => ⟨idx_lt e, hf⟩) h
      refine ⟨hI, fun c l z h => ?_⟩
      rw [itemsN_cons] at h
      by_cases cw : some w = c
      · rw [if_pos cw] at h; cases h; trivial
      · rw [if_neg cw] at h
        cases ex : itemN (lets ls) d (w :: r) with
        | none => rw [ex] at h; cases h
        | some x =>
          obtain ⟨i, q⟩ := x
          obtain ⟨k, k0, hk, ek⟩ := itemN_drop ex
          have hq : q.length ≤ n := by rw [ek, List.length_drop]; omega
          rw [ex] at h
          dsimp only at h
          cases ey : itemsN (lets ls) d c q with
          | none => rw [ey] at h; cases h
          | some y =>
            obtain ⟨m, z'⟩ := y
            rw [ey] at h
            cases h
            exact ⟨hI i q ex, (ih q hq d).2 _ _ _ ey⟩
theorem rowIn_good {ls : List Nat} {ws : List Text} {l : Items} (h : rowIn (lets ls) ws = some l) : GoodIs ls.length l := by
  rw [rowIn_eq] at h
  cases e : itemsN (lets ls) 3 none ws with
  | none => rw [e] at h; cases h
  | some x =>
    obtain ⟨m, z⟩ := x
    rw [e] at h
    have g := (items_good (ls := ls) ws.length ws (Nat.le_refl _) 3).2 _ _ _ e
    match m, z, h with
    | .cons i m, [], h => cases h; exact g
end Kn
namespace Kn
open Vbktaa
/-! ### a text's lines, read one behind another -/
structure RD where
  ss : List Size
  cast : Option Form
  rows : List (Text × Items)
  o : Open
def RD.nms (s : RD) : List Text := s.rows.map fun x => x.1
def snm (ss : List Size) : List Text := ss.map fun s => s.name
def stepR (n : Nat) (s : RD) (ws : List Text) : (Nat × Nat) ⊕ (RD × Bool) := match s.cast with
  | none => if ws.head? = some (word "size") then (match readSize s.ss ws with
      | .inl k => .inl (n, k)
      | .inr z => .inr ({ s with ss := s.ss ++ [z] }, false))
    else match ws with
      | [w, t] => if w = word "cast" then (match formOf (snm s.ss) t with
        | none => .inl (n, 1)
        | some c => .inr ({ s with cast := some c }, false)) else .inl (n, 1)
      | _ => .inl (n, 1)
  | some _ => match kindOf (snm s.ss) ws with
    | .bad => .inl (n, 1)
    | .off => if s.o.blks ≠ [] then .inl (n, 5) else match s.o.base with
      | .nil => .inl (n, 5)
      | .cons _ _ => .inr (s, true)
    | .fin => match s.o.blks with
      | [] => .inl (n, 5)
      | b :: r => match b.parts with
        | .nil => .inl (b.line, 5)
        | .cons x y => .inr ({ s with o := Open.push ⟨r, s.o.base⟩ (.again b.form (.cons x y)) }, false)
    | .row name l => if s.nms.contains name = true then .inl (n, 2) else if 20 ≤ s.rows.length then .inl (n, 4) else .inr ({ s with o := s.o.push (.row s.rows.length name l), rows := s.rows ++ [(name, l)] }, false)
    | .again t => if s.o.blks.length = 3 then .inl (n, 4) else .inr ({ s with o := ⟨⟨n, .nil, t⟩ :: s.o.blks, s.o.base⟩ }, false)
def runR : Nat → RD → List (List Text) → (Nat × Nat) ⊕ RD
  | n, _, [] => .inl (n, 6)
  | n, s, ws :: rest => match stepR n s ws with
    | .inl e => .inl e
    | .inr (s', true) => if rest.isEmpty = true then .inr s' else .inl (n + 1, 5)
    | .inr (s', false) => runR (n + 1) s' rest
def overR (x : (Nat × Nat) ⊕ RD) : (Nat × Nat) ⊕ Parts := match x with
  | .inl e => .inl e
  | .inr s => .inr s.o.base
theorem push_len (o : Open) (p : Part) : (o.push p).blks.length = o.blks.length := by
  unfold Open.push
  cases o.blks with
  | nil => rfl
  | cons b r => rfl
/-- the state behind a line is the machine's -/
theorem step_same {n : Nat} {s : RD} {c : Form} (hc : s.cast = some c) (ws : List Text) :
    match stepR n s ws with
    | .inl e => stepB (snm s.ss) n s.o s.nms ws = .inl e
    | .inr (s', b) => stepB (snm s.ss) n s.o s.nms ws = .inr (s'.o, s'.nms, b) ∧ s'.cast = some c ∧ s'.ss = s.ss ∧ (s.o.blks.length ≤ 3 → s'.o.blks.length ≤ 3) ∧ (b = true → s'.o.base ≠ .nil ∧ s'.o.blks = []) := by
  obtain ⟨ss, cast, rows, o⟩ := s
  have hc' : cast = some c := hc
  subst hc'
  unfold stepR stepB
  dsimp only
  cases kindOf (snm ss) ws with
  | bad => rfl
  | off =>
    dsimp only
    by_cases h : o.blks ≠ []
    · rw [if_pos h, if_pos h]
    · rw [if_neg h, if_neg h]
      cases e : o.base with
      | nil => rfl
      | cons x y => exact ⟨rfl, rfl, rfl, fun h => h, fun _ => ⟨by show o.base ≠ _; rw [e]; exact (fun z => nomatch z), by simpa using h⟩⟩
  | fin =>
    dsimp only
    cases e : o.blks with
    | nil => rfl
    | cons b r =>
      dsimp only
      cases e2 : b.parts with
      | nil => rfl
      | cons x y =>
        refine ⟨rfl, rfl, rfl, fun h => ?_, fun z => nomatch z⟩
        show (Open.push _ _).blks.length ≤ 3
        rw [push_len]
        simp at h
        show r.length ≤ 3
        omega
  | row name l =>
    dsimp only
    by_cases h1 : (RD.nms ⟨ss, some c, rows, o⟩).contains name = true
    · rw [if_pos h1, if_pos h1]
    · rw [if_neg h1, if_neg h1]
      have el : (RD.nms ⟨ss, some c, rows, o⟩).length = rows.length := List.length_map _
      rw [el]
      by_cases h2 : 20 ≤ rows.length
      · rw [if_pos h2, if_pos h2]
      · rw [if_neg h2, if_neg h2]
        refine ⟨?_, rfl, rfl, fun h => by show (Open.push _ _).blks.length ≤ 3; rw [push_len]; exact h, fun z => nomatch z⟩
        have e3 : ({ ss := ss, cast := some c, rows := rows ++ [(name, l)], o := o.push (.row rows.length name l) } : RD).nms = (RD.nms ⟨ss, some c, rows, o⟩) ++ [name] := by
          unfold RD.nms
          rw [List.map_append]; rfl
        rw [e3]
  | again t =>
    dsimp only
    by_cases h : o.blks.length = 3
    · rw [if_pos h, if_pos h]
    · rw [if_neg h, if_neg h]
      refine ⟨rfl, rfl, rfl, fun h3 => ?_, fun z => nomatch z⟩
      have h3' : o.blks.length ≤ 3 := h3
      show o.blks.length + 1 ≤ 3
      omega
theorem body_run {c : Form} : ∀ (lines : List (List Text)) (n : Nat) (s : RD), s.cast = some c → s.o.blks.length ≤ 3 → goOn (snm s.ss) s.o.blks s.o.base n s.nms lines = overR (runR n s lines)
  | [], n, s, _, _ => goOn_nil _ _ _ _ _
  | ws :: rest, n, s, hc, hb => by
    rw [goOn_cons _ _ _ _ _ _ _ hb]
    have z := step_same (n := n) hc ws
    unfold runR
    cases e : stepR n s ws with
    | inl er =>
      rw [e] at z
      dsimp only at z
      show behind _ _ (stepB _ n s.o _ _) _ = _
      rw [z]; rfl
    | inr x =>
      obtain ⟨s', b⟩ := x
      rw [e] at z
      dsimp only at z
      obtain ⟨z1, z2, z3, z4, z5⟩ := z
      show behind _ _ (stepB _ n s.o _ _) _ = _
      rw [z1]
      cases b with
      | true =>
        show (if rest.isEmpty = true then _ else _) = overR (if rest.isEmpty = true then _ else _)
        by_cases hr : rest.isEmpty = true
        · rw [if_pos hr, if_pos hr]; rfl
        · rw [if_neg hr, if_neg hr]; rfl
      | false =>
        have := body_run rest (n + 1) s' z2 (z4 hb)
        rw [← z3]
        exact this
def headR (x : (Nat × Nat) ⊕ RD) : (Nat × Nat) ⊕ Pattern := match x with
  | .inl e => .inl e
  | .inr s => .inr { sizes := s.ss, cast := s.cast.getD (constant 0), parts := s.o.base }
theorem run_cast {c : Form} : ∀ (lines : List (List Text)) (n : Nat) (s s' : RD), s.cast = some c → runR n s lines = .inr s' → s'.cast = some c ∧ s'.ss = s.ss ∧ s'.o.base ≠ .nil
  | [], n, s, s', _, h => by cases h
  | ws :: rest, n, s, s', hc, h => by
    have z := step_same (n := n) hc ws
    unfold runR at h
    cases e : stepR n s ws with
    | inl er => rw [e] at h; cases h
    | inr x =>
      obtain ⟨t, b⟩ := x
      rw [e] at z h
      obtain ⟨z1, z2, z3, z4, z5⟩ := z
      cases b with
      | true =>
        dsimp only at h
        by_cases hr : rest.isEmpty = true
        · rw [if_pos hr] at h
          cases h
          exact ⟨z2, z3, (z5 rfl).1⟩
        · rw [if_neg hr] at h; cases h
      | false =>
        obtain ⟨y1, y2, y3⟩ := run_cast rest (n + 1) t s' z2 h
        exact ⟨y1, y2.trans z3, y3⟩
theorem partsEnd (ls : List Text) (n : Nat) (lines : List (List Text)) : goOn ls [] .nil n [] lines = match partsN ls n 3 [] lines with
    | .inl e => .inl e
    | .inr (p, _, m, more) => match p with
      | .nil => .inl (m - 1, 5)
      | .cons a b => if more.isEmpty = true then .inr (.cons a b) else .inl (m, 5) := by
  rw [goOn_base]; rfl
theorem head_run : ∀ (lines : List (List Text)) (n : Nat) (ss : List Size), readHead n ss lines = headR (runR n ⟨ss, none, [], ⟨[], .nil⟩⟩ lines)
  | [], n, ss => by
    rw [readHead.eq_def]; rfl
  | ws :: rest, n, ss => by
    rw [readHead.eq_def]
    unfold runR stepR
    dsimp only
    by_cases h1 : ws.head? = some (word "size")
    · rw [if_pos h1, if_pos h1]
      cases readSize ss ws with
      | inl k => rfl
      | inr z => exact head_run rest (n + 1) (ss ++ [z])
    · rw [if_neg h1, if_neg h1]
      match ws with
      | [] => rfl
      | [_] => rfl
      | _ :: _ :: _ :: _ => rfl
      | [w, t] =>
        dsimp only
        by_cases h2 : w = word "cast"
        · rw [if_pos h2, if_pos h2]
          show (match formOf (snm ss) t with
            | none => _
            | some c => _) = _
          cases hf : formOf (snm ss) t with
          | none => rfl
          | some c =>
            dsimp only
            have b := body_run (c := c) rest (n + 1) ⟨ss, some c, [], ⟨[], .nil⟩⟩ rfl (Nat.zero_le _)
            have b' : goOn (snm ss) [] .nil (n + 1) [] rest = overR (runR (n + 1) ⟨ss, some c, [], ⟨[], .nil⟩⟩ rest) := b
            rw [partsEnd] at b'
            have e1 : partsIn (ss.map fun s => s.name) (2 * rest.length + 4) (n + 1) DEEP 0 [] rest = partsN (snm ss) (n + 1) 3 [] rest := partsN_is (by omega)
            rw [e1]
            cases er : runR (n + 1) ⟨ss, some c, [], ⟨[], .nil⟩⟩ rest with
            | inl e =>
              rw [er] at b'
              cases ep : partsN (snm ss) (n + 1) 3 [] rest with
              | inl e' => rw [ep] at b'; cases b'; rfl
              | inr x =>
                obtain ⟨p, nm, m, more⟩ := x
                rw [ep] at b'
                cases p with
                | nil => cases b'; rfl
                | cons a q =>
                  dsimp only at b' ⊢
                  by_cases hm : more.isEmpty = true
                  · rw [if_pos hm] at b'; cases b'
                  · rw [if_neg hm] at b' ⊢
                    cases b'; rfl
            | inr s' =>
              rw [er] at b'
              obtain ⟨y1, y2, y3⟩ := run_cast (c := c) rest (n + 1) _ s' rfl er
              cases ep : partsN (snm ss) (n + 1) 3 [] rest with
              | inl e' => rw [ep] at b'; cases b'
              | inr x =>
                obtain ⟨p, nm, m, more⟩ := x
                rw [ep] at b'
                cases p with
                | nil => cases b'
                | cons a q =>
                  dsimp only at b' ⊢
                  by_cases hm : more.isEmpty = true
                  · rw [if_pos hm] at b' ⊢
                    have e5 : Parts.cons a q = s'.o.base := Sum.inr.inj b'
                    rw [e5]
                    show Sum.inr _ = Sum.inr _
                    rw [y1, y2]; rfl
                  · rw [if_neg hm] at b'; cases b'
        · rw [if_neg h2, if_neg h2]; rfl
end Kn
namespace Kn
open Vbktaa
/-! ### a letter's line -/
/-- what stands behind the words that are told -/
def sizeD (ss : List Size) (c : Nat) (a s : Int) (h : Option Nat) : Nat ⊕ Size := if (ss.map fun z => z.name.headD 0).contains c = true then .inl 2 else if ss.length = 2 then .inl 4 else .inr ⟨[c], a.toNat, s.toNat, h⟩
def sizeR (ss : List Size) (ws : List Text) : Nat ⊕ Size :=
  if ¬ (4 ≤ ws.length ∧ ws.length ≤ 5) then .inl 1 else
  if (ws.getD 1 []).length ≠ 1 then .inl 1 else
  if small ((ws.getD 1 []).headD 0) = false then .inl 1 else
  if (ws.getD 1 []).headD 0 = 107 ∨ (ws.getD 1 []).headD 0 = 112 then .inl 1 else
  if ¬ (0 ≤ numI (ws.getD 2 []) ∧ numI (ws.getD 2 []) ≤ 1000) then .inl 1 else
  if ¬ (1 ≤ numI (ws.getD 3 []) ∧ numI (ws.getD 3 []) ≤ 100) then .inl 1 else
  if ws.length = 5 then
    if ¬ (numI (ws.getD 2 []) ≤ numI (ws.getD 4 []) ∧ numI (ws.getD 4 []) ≤ 1000) then .inl 1 else sizeD ss ((ws.getD 1 []).headD 0) (numI (ws.getD 2 [])) (numI (ws.getD 3 [])) (some (numI (ws.getD 4 [])).toNat)
  else sizeD ss ((ws.getD 1 []).headD 0) (numI (ws.getD 2 [])) (numI (ws.getD 3 [])) none
theorem numI_some {t : Text} {n : Nat} (h : natOf 4 t = some n) : numI t = (n : Int) := by unfold numI; rw [h]
theorem numI_none {t : Text} (h : natOf 4 t = none) : numI t = -1 := by unfold numI; rw [h]
theorem nat3_some {t : Text} {n : Nat} (h : natOf 3 t = some n) : natOf 4 t = some n := by
  unfold natOf at h ⊢
  by_cases c : t.isEmpty = true ∨ 3 < t.length ∨ t.all digit = false ∨ (1 < t.length ∧ t.head? = some 48)
  · rw [if_pos c] at h; cases h
  · rw [if_neg c] at h
    rw [if_neg]
    · exact h
    · intro z
      refine c ?_
      rcases z with z | z | z | z
      · exact .inl z
      · exact .inr (.inl (by omega))
      · exact .inr (.inr (.inl z))
      · exact .inr (.inr (.inr z))
theorem nat3_none {t : Text} {n : Nat} (h : natOf 3 t = none) (h4 : natOf 4 t = some n) : 1000 ≤ n := by
  unfold natOf at h h4
  by_cases c : t.isEmpty = true ∨ 4 < t.length ∨ t.all digit = false ∨ (1 < t.length ∧ t.head? = some 48)
  · rw [if_pos c] at h4; cases h4
  · rw [if_neg c] at h4
    by_cases c3 : t.isEmpty = true ∨ 3 < t.length ∨ t.all digit = false ∨ (1 < t.length ∧ t.head? = some 48)
    · have hl : t.length = 4 := by
        rcases c3 with z | z | z | z
        · exact absurd (.inl z) c
        · have : ¬ 4 < t.length := fun y => c (.inr (.inl y))
          omega
        · exact absurd (.inr (.inr (.inl z))) c
        · exact absurd (.inr (.inr (.inr z))) c
      match t, hl with
      | [a, b, d, e], _ =>
        have ha : ¬ ([a, b, d, e].all digit = false) := fun y => c (.inr (.inr (.inl y)))
        have h0 : ¬ (1 < [a, b, d, e].length ∧ [a, b, d, e].head? = some 48) := fun y => c (.inr (.inr (.inr y)))
        have hd : digit a = true := by
          cases z : digit a with
          | true => rfl
          | false =>
            refine absurd ?_ ha
            rw [List.all_cons, z, Bool.false_and]
        have ha48 : 48 ≤ a ∧ a ≤ 57 := by
          unfold digit at hd
          simpa using hd
        have hne : a ≠ 48 := fun z => h0 ⟨by simp, by rw [z]; rfl⟩
        rw [← Option.some.inj h4]
        show 1000 ≤ 10 * (10 * (10 * (10 * 0 + (a - 48)) + (b - 48)) + (d - 48)) + (e - 48)
        omega
    · rw [if_neg c3] at h; cases h
theorem any_name {ss : List Size} (hN : ∀ s ∈ ss, ∃ n, s.name = [n]) (c : Nat) : (ss.any fun x => x.name == [c]) = (ss.map fun z => z.name.headD 0).contains c := by
  induction ss with
  | nil => rfl
  | cons s r ih =>
    obtain ⟨n, e⟩ := hN s (List.mem_cons_self ..)
    rw [List.any_cons, List.map_cons, List.contains_cons, ih fun z hz => hN z (List.mem_cons_of_mem _ hz), e]
    congr 1
    show ([n] == [c]) = (c == n)
    by_cases h : c = n
    · subst h; simp
    · rw [beq_eq_false_iff_ne.mpr h, beq_eq_false_iff_ne.mpr]
      intro z
      exact h (List.cons.inj z).1.symm
/-- the two texts of what a letter's line tells -/
theorem readSize_core {ss : List Size} (hl : ss.length ≤ 2) (hN : ∀ s ∈ ss, ∃ n, s.name = [n]) (w : Text) (a s : Nat) (h : Option Nat) :
    (if w.length ≠ 1 ∨ w.all small = false ∨ w = word "k" ∨ w = word "p" ∨ 1000 < a ∨ s = 0 ∨ 100 < s ∨ (h.any fun x => decide (x < a ∨ 1000 < x)) = true then (.inl 1 : Nat ⊕ Size) else if (ss.any fun x => x.name == w) = true then .inl 2 else if SIZES ≤ ss.length then .inl 4 else .inr ⟨w, a, s, h⟩) =
    (if w.length ≠ 1 then .inl 1 else if small (w.headD 0) = false then .inl 1 else if w.headD 0 = 107 ∨ w.headD 0 = 112 then .inl 1 else if ¬ a ≤ 1000 then .inl 1 else if ¬ (1 ≤ s ∧ s ≤ 100) then .inl 1 else
      if (h.any fun x => decide (x < a ∨ 1000 < x)) = true then .inl 1 else sizeD ss (w.headD 0) (a : Int) (s : Int) h) := by
  by_cases h1 : w.length ≠ 1
  · rw [if_pos (.inl h1), if_pos h1]
  · rw [if_neg h1]
    have hw : w.length = 1 := by omega
    match w, hw with
    | [c], _ =>
      have e1 : ([c] : Text).headD 0 = c := rfl
      rw [e1]
      by_cases h2 : small c = false
      · rw [if_pos h2, if_pos]
        exact .inr (.inl (by rw [List.all_cons, h2]; rfl))
      · rw [if_neg h2]
        by_cases h3 : c = 107 ∨ c = 112
        · rw [if_pos h3, if_pos]
          rcases h3 with z | z
          · exact .inr (.inr (.inl (by rw [z]; rfl)))
          · exact .inr (.inr (.inr (.inl (by rw [z]; rfl))))
        · rw [if_neg h3]
          by_cases h4 : ¬ a ≤ 1000
          · rw [if_pos h4, if_pos]
            exact .inr (.inr (.inr (.inr (.inl (by omega)))))
          · rw [if_neg h4]
            by_cases h5 : ¬ (1 ≤ s ∧ s ≤ 100)
            · rw [if_pos h5, if_pos]
              by_cases z : s = 0
              · exact .inr (.inr (.inr (.inr (.inr (.inl z)))))
              · exact .inr (.inr (.inr (.inr (.inr (.inr (.inl (by omega)))))))
            · rw [if_neg h5]
              by_cases h6 : (h.any fun x => decide (x < a ∨ 1000 < x)) = true
              · rw [if_pos h6, if_pos]
                exact .inr (.inr (.inr (.inr (.inr (.inr (.inr h6))))))
              · rw [if_neg h6, if_neg]
                · unfold sizeD
                  rw [any_name hN c]
                  by_cases h7 : (ss.map fun z => z.name.headD 0).contains c = true
                  · rw [if_pos h7, if_pos h7]
                  · rw [if_neg h7, if_neg h7]
                    by_cases h8 : ss.length = 2
                    · rw [if_pos h8, if_pos (show SIZES ≤ ss.length by show 2 ≤ ss.length; omega)]
                    · rw [if_neg h8, if_neg (show ¬ SIZES ≤ ss.length by show ¬ 2 ≤ ss.length; omega)]; rfl
                · intro z
                  rcases z with z | z | z | z | z | z | z | z
                  · exact z rfl
                  · rw [List.all_cons] at z
                    have : small c = true := by
                      cases y : small c with
                      | true => rfl
                      | false => exact absurd y h2
                    rw [this] at z; cases z
                  · exact h3 (.inl (List.cons.inj z).1)
                  · exact h3 (.inr (List.cons.inj z).1)
                  · omega
                  · omega
                  · omega
                  · exact h6 z
theorem readSize_is {ss : List Size} (hl : ss.length ≤ 2) (hN : ∀ s ∈ ss, ∃ n, s.name = [n]) (ws : List Text) : readSize ss ws = sizeR ss ws := by
  -- the step's number
  have stepE : ∀ (t : Text) (A B : Nat ⊕ Size) (f : Nat → Nat ⊕ Size), True := fun _ _ _ _ => trivial
  clear stepE
  have bad : ∀ ws : List Text, ¬ (4 ≤ ws.length ∧ ws.length ≤ 5) → sizeR ss ws = .inl 1 := fun ws h => by unfold sizeR; rw [if_pos h]
  -- a word that is no number makes it wrong
  have key : ∀ (o w a s : Text) (r : List Text) (hr : Option (Option Nat)), sizeR ss (o :: w :: a :: s :: r) = (match natOf 4 a, natOf 3 s, hr with
    | some a, some s, some h => if w.length ≠ 1 ∨ w.all small = false ∨ w = word "k" ∨ w = word "p" ∨ 1000 < a ∨ s = 0 ∨ 100 < s ∨ (h.any fun x => decide (x < a ∨ 1000 < x)) = true then (.inl 1 : Nat ⊕ Size) else if (ss.any fun x => x.name == w) = true then .inl 2 else if SIZES ≤ ss.length then .inl 4 else .inr ⟨w, a, s, h⟩
    | _, _, _ => .inl 1) → True := fun _ _ _ _ _ _ _ => trivial
  clear key
  have one : ∀ {C : Prop} [Decidable C] {x : Nat ⊕ Size}, x = .inl 1 → (if C then .inl 1 else x) = .inl 1 := fun {C} _ {x} h => by
    by_cases c : C
    · rw [if_pos c]
    · rw [if_neg c]; exact h
  match ws with
  | [] => rw [bad _ (by simp)]; rfl
  | [_] => rw [bad _ (by simp)]; rfl
  | [_, _] => rw [bad _ (by simp)]; rfl
  | [_, _, _] => rw [bad _ (by simp)]; rfl
  | _ :: w :: a :: s :: _ :: _ :: _ =>
    rw [bad _ (by simp)]
    unfold readSize
    dsimp only
    cases natOf 4 a with
    | none => rfl
    | some _ => cases natOf 3 s with
      | none => rfl
      | some _ => rfl
  | [o, w, a, s] =>
    unfold readSize sizeR
    rw [if_neg (show ¬¬ (4 ≤ [o, w, a, s].length ∧ [o, w, a, s].length ≤ 5) from fun h => h ⟨by simp, by simp⟩), if_neg (show ¬ [o, w, a, s].length = 5 by simp)]
    show _ = if w.length ≠ 1 then _ else if small (w.headD 0) = false then _ else if w.headD 0 = 107 ∨ w.headD 0 = 112 then _ else if ¬ (0 ≤ numI a ∧ numI a ≤ 1000) then _ else if ¬ (1 ≤ numI s ∧ numI s ≤ 100) then _ else sizeD ss (w.headD 0) (numI a) (numI s) none
    dsimp only
    cases ha : natOf 4 a with
    | none =>
      rw [numI_none ha]
      dsimp only
      exact (one (one (one (by rw [if_pos (by omega)])))).symm
    | some a' =>
      rw [numI_some ha]
      cases hs : natOf 3 s with
      | none =>
        dsimp only
        refine (one (one (one (one ?_)))).symm
        rw [if_pos]
        intro z
        cases h4 : natOf 4 s with
        | none => rw [numI_none h4] at z; omega
        | some n =>
          rw [numI_some h4] at z
          have := nat3_none hs h4
          omega
      | some s' =>
        rw [numI_some (nat3_some hs)]
        dsimp only
        rw [readSize_core hl hN w a' s' none]
        have eA : (¬ (0 ≤ (a' : Int) ∧ (a' : Int) ≤ 1000)) = ¬ a' ≤ 1000 := propext ⟨fun h z => h ⟨by omega, by omega⟩, fun h z => h (by omega)⟩
        have eS : (¬ (1 ≤ (s' : Int) ∧ (s' : Int) ≤ 100)) = ¬ (1 ≤ s' ∧ s' ≤ 100) := propext ⟨fun h z => h ⟨by omega, by omega⟩, fun h z => h ⟨by omega, by omega⟩⟩
        simp only [eA, eS, Option.any_none, Bool.false_eq_true, if_false]
  | [o, w, a, s, g] =>
    unfold readSize sizeR
    rw [if_neg (show ¬¬ (4 ≤ [o, w, a, s, g].length ∧ [o, w, a, s, g].length ≤ 5) from fun h => h ⟨by simp, by simp⟩), if_pos (show [o, w, a, s, g].length = 5 by rfl)]
    show _ = if w.length ≠ 1 then _ else if small (w.headD 0) = false then _ else if w.headD 0 = 107 ∨ w.headD 0 = 112 then _ else if ¬ (0 ≤ numI a ∧ numI a ≤ 1000) then _ else if ¬ (1 ≤ numI s ∧ numI s ≤ 100) then _ else if ¬ (numI a ≤ numI g ∧ numI g ≤ 1000) then _ else sizeD ss (w.headD 0) (numI a) (numI s) (some (numI g).toNat)
    dsimp only
    cases ha : natOf 4 a with
    | none =>
      rw [numI_none ha]
      dsimp only
      exact (one (one (one (by rw [if_pos (by omega)])))).symm
    | some a' =>
      rw [numI_some ha]
      cases hs : natOf 3 s with
      | none =>
        dsimp only
        refine (one (one (one (one ?_)))).symm
        rw [if_pos]
        intro z
        cases h4 : natOf 4 s with
        | none => rw [numI_none h4] at z; omega
        | some n =>
          rw [numI_some h4] at z
          have := nat3_none hs h4
          omega
      | some s' =>
        rw [numI_some (nat3_some hs)]
        cases hg : natOf 4 g with
        | none =>
          rw [numI_none hg]
          dsimp only [Option.map]
          exact (one (one (one (one (one (by rw [if_pos (by omega)])))))).symm
        | some g' =>
          rw [numI_some hg]
          dsimp only [Option.map]
          rw [readSize_core hl hN w a' s' (some g')]
          have eA : (¬ (0 ≤ (a' : Int) ∧ (a' : Int) ≤ 1000)) = ¬ a' ≤ 1000 := propext ⟨fun h z => h ⟨by omega, by omega⟩, fun h z => h (by omega)⟩
          have eS : (¬ (1 ≤ (s' : Int) ∧ (s' : Int) ≤ 100)) = ¬ (1 ≤ s' ∧ s' ≤ 100) := propext ⟨fun h z => h ⟨by omega, by omega⟩, fun h z => h ⟨by omega, by omega⟩⟩
          have eG : ((some g').any (fun x => decide (x < a' ∨ 1000 < x)) = true) = ¬ ((a' : Int) ≤ (g' : Int) ∧ (g' : Int) ≤ 1000) := by
            rw [Option.any_some, decide_eq_true_eq]
            exact propext ⟨fun h z => by omega, fun h => by omega⟩
          simp only [eA, eS, eG, Int.toNat_natCast]
end Kn
namespace Kn
open Vbktaa
/-- within bounds -/
structure Fit (n : Nat) (s : RD) : Prop where
  deep : s.o.blks.length ≤ 3
  rows : s.rows.length ≤ 20
  line : ∀ b ∈ s.o.blks, 1 ≤ b.line ∧ b.line < n
theorem Fit.start (ss : List Size) : Fit 1 ⟨ss, none, [], ⟨[], .nil⟩⟩ := ⟨by show 0 ≤ 3; omega, by show 0 ≤ 20; omega, fun b hb => absurd hb (List.not_mem_nil)⟩
theorem push_line {o : Open} {p : Part} {n : Nat} (h : ∀ b ∈ o.blks, 1 ≤ b.line ∧ b.line < n) : ∀ b ∈ (o.push p).blks, 1 ≤ b.line ∧ b.line < n := by
  obtain ⟨blks, base⟩ := o
  cases blks with
  | nil => exact h
  | cons x r =>
    intro b hb
    have hb' : b ∈ { x with parts := appP x.parts (.cons p .nil) } :: r := hb
    rcases List.mem_cons.mp hb' with e | m
    · rw [e]; exact h x (List.mem_cons_self ..)
    · exact h b (List.mem_cons_of_mem _ m)
theorem step_head {n : Nat} {s : RD} (hc : s.cast = none) (ws : List Text) : stepR n s ws = if ws.head? = some (word "size") then (match readSize s.ss ws with
      | .inl k => .inl (n, k)
      | .inr z => .inr (⟨s.ss ++ [z], none, s.rows, s.o⟩, false))
    else match ws with
      | [w, t] => if w = word "cast" then (match formOf (snm s.ss) t with
        | none => .inl (n, 1)
        | some c => .inr (⟨s.ss, some c, s.rows, s.o⟩, false)) else .inl (n, 1)
      | _ => .inl (n, 1) := by
  obtain ⟨ss, cast, rows, o⟩ := s
  have hc' : cast = none := hc
  subst hc'
  rfl
theorem step_body {n : Nat} {s : RD} {c : Form} (hc : s.cast = some c) (ws : List Text) : stepR n s ws = match kindOf (snm s.ss) ws with
    | .bad => .inl (n, 1)
    | .off => if s.o.blks ≠ [] then .inl (n, 5) else match s.o.base with
      | .nil => .inl (n, 5)
      | .cons _ _ => .inr (s, true)
    | .fin => match s.o.blks with
      | [] => .inl (n, 5)
      | b :: r => match b.parts with
        | .nil => .inl (b.line, 5)
        | .cons x y => .inr (⟨s.ss, some c, s.rows, Open.push ⟨r, s.o.base⟩ (.again b.form (.cons x y))⟩, false)
    | .row name l => if s.nms.contains name = true then .inl (n, 2) else if 20 ≤ s.rows.length then .inl (n, 4) else .inr (⟨s.ss, some c, s.rows ++ [(name, l)], s.o.push (.row s.rows.length name l)⟩, false)
    | .again t => if s.o.blks.length = 3 then .inl (n, 4) else .inr (⟨s.ss, some c, s.rows, ⟨⟨n, .nil, t⟩ :: s.o.blks, s.o.base⟩⟩, false) := by
  obtain ⟨ss, cast, rows, o⟩ := s
  have hc' : cast = some c := hc
  subst hc'
  rfl
/-- what is left of a line that is read -/
theorem step_cases {n : Nat} {s : RD} {ws : List Text} (hn : 1 ≤ n) (hF : Fit n s) : match stepR n s ws with
    | .inl e => e.1 = n ∨ 1 ≤ e.1
    | .inr y => Fit (n + 1) y.1 := by
  have up : ∀ b ∈ s.o.blks, 1 ≤ b.line ∧ b.line < n + 1 := fun b hb => ⟨(hF.line b hb).1, by have := (hF.line b hb).2; omega⟩
  cases hc : s.cast with
  | none =>
    rw [step_head hc]
    by_cases h1 : ws.head? = some (word "size")
    · rw [if_pos h1]
      cases readSize s.ss ws with
      | inl k => exact .inl rfl
      | inr z => exact ⟨hF.deep, hF.rows, up⟩
    · rw [if_neg h1]
      match ws with
      | [] => exact .inl rfl
      | [_] => exact .inl rfl
      | _ :: _ :: _ :: _ => exact .inl rfl
      | [w, t] =>
        dsimp only
        by_cases h2 : w = word "cast"
        · rw [if_pos h2]
          cases formOf (snm s.ss) t with
          | none => exact .inl rfl
          | some c => exact ⟨hF.deep, hF.rows, up⟩
        · rw [if_neg h2]
          exact .inl rfl
  | some c =>
    rw [step_body hc]
    cases kindOf (snm s.ss) ws with
    | bad => exact .inl rfl
    | off =>
      dsimp only
      by_cases h : s.o.blks ≠ []
      · rw [if_pos h]; exact .inl rfl
      · rw [if_neg h]
        cases s.o.base with
        | nil => exact .inl rfl
        | cons x y => exact ⟨hF.deep, hF.rows, up⟩
    | fin =>
      dsimp only
      cases e : s.o.blks with
      | nil => exact .inl rfl
      | cons b r =>
        dsimp only
        cases e2 : b.parts with
        | nil => exact .inr (hF.line b (by rw [e]; exact List.mem_cons_self ..)).1
        | cons x y =>
          refine ⟨?_, hF.rows, push_line fun z hz => up z (by rw [e]; exact List.mem_cons_of_mem _ hz)⟩
          show (Open.push _ _).blks.length ≤ 3
          rw [push_len]
          have := hF.deep
          rw [e] at this
          simp at this
          show r.length ≤ 3
          omega
    | row name l =>
      dsimp only
      by_cases h1 : s.nms.contains name = true
      · rw [if_pos h1]; exact .inl rfl
      · rw [if_neg h1]
        by_cases h2 : 20 ≤ s.rows.length
        · rw [if_pos h2]; exact .inl rfl
        · rw [if_neg h2]
          refine ⟨by show (Open.push _ _).blks.length ≤ 3; rw [push_len]; exact hF.deep, ?_, push_line up⟩
          show (s.rows ++ [(name, l)]).length ≤ 20
          rw [List.length_append, List.length_singleton]; omega
    | again t =>
      dsimp only
      by_cases h : s.o.blks.length = 3
      · rw [if_pos h]; exact .inl rfl
      · rw [if_neg h]
        refine ⟨?_, hF.rows, fun b hb => ?_⟩
        · show s.o.blks.length + 1 ≤ 3
          have := hF.deep
          omega
        · have hb' : b ∈ (⟨n, .nil, t⟩ : Blk) :: s.o.blks := hb
          rcases List.mem_cons.mp hb' with e | m
          · rw [e]
            refine ⟨?_, by show n < n + 1; omega⟩
            exact hn
          · exact up b m
end Kn
namespace Kn
open Vbktaa
/-! ### how deep, how many words -/
mutual
def DeepI : Item → Nat → Prop
  | .st _ _ => fun _ => True
  | .group l _ => fun d => ∃ e, d = e + 1 ∧ DeepIs l e
  | .fill l _ => fun d => ∃ e, d = e + 1 ∧ DeepIs l e
def DeepIs : Items → Nat → Prop
  | .nil => fun _ => True
  | .cons i r => fun d => DeepI i d ∧ DeepIs r d
end
mutual
def wI : Item → Nat
  | .st _ _ => 2
  | .group l _ => wIs l + 3
  | .fill l _ => wIs l + 4
def wIs : Items → Nat
  | .nil => 0
  | .cons i r => wI i + wIs r
end
theorem times_mk {ls : List Text} {mk : Form → Item} {r z : List Text} {i : Item} (h : timesIn ls mk r = some (i, z)) : (∃ f, i = mk f) ∧ z.length ≤ r.length := by
  unfold timesIn at h
  cases r with
  | nil => cases h; exact ⟨⟨_, rfl⟩, Nat.le_refl _⟩
  | cons t q =>
    dsimp only at h
    cases e : formOf ls t with
    | none => rw [e] at h; cases h; exact ⟨⟨_, rfl⟩, Nat.le_refl _⟩
    | some f => rw [e] at h; cases h; exact ⟨⟨_, rfl⟩, by simp⟩
theorem fill_mk {ls : List Text} {mk : Form → Item} {r z : List Text} {i : Item} (h : fillIn ls mk r = some (i, z)) : (∃ f, i = mk f) ∧ z.length + 2 ≤ r.length := by
  unfold fillIn at h
  match r, h with
  | to :: t :: q, h =>
    dsimp only at h
    by_cases c : to = word "to"
    · rw [if_pos c] at h
      cases e : formOf ls t with
      | none => rw [e] at h; cases h
      | some f => rw [e] at h; cases h; exact ⟨⟨_, rfl⟩, by simp⟩
    · rw [if_neg c] at h; cases h
theorem items_deep {ls : List Text} : ∀ (n : Nat) (ws : List Text), ws.length ≤ n → ∀ d,
    (∀ i z, itemN ls d ws = some (i, z) → DeepI i d ∧ wI i + 2 * z.length ≤ 2 * ws.length) ∧ ∀ c l z, itemsN ls d c ws = some (l, z) → DeepIs l d ∧ wIs l + 2 * z.length + (if c = none then 0 else 2) ≤ 2 * ws.length := by
  intro n
  induction n with
  | zero =>
    intro ws hl d
    have e : ws = [] := List.eq_nil_of_length_eq_zero (by omega)
    subst e
    refine ⟨fun i z h => ?_, fun c l z h => ?_⟩
    · rw [itemN_nil] at h; cases h
    · rw [itemsN_nil] at h
      by_cases c0 : c = none
      · rw [if_pos c0] at h; cases h
        rw [if_pos c0]
        exact ⟨trivial, Nat.le_refl _⟩
      · rw [if_neg c0] at h; cases h
  | succ n ih =>
    intro ws hl d
    cases ws with
    | nil => exact ih [] (by simp) d
    | cons w r =>
      have hr : r.length ≤ n := by simp at hl; omega
      have hI : ∀ i z, itemN ls d (w :: r) = some (i, z) → DeepI i d ∧ wI i + 2 * z.length ≤ 2 * (w :: r).length := by
        intro i z h
        rw [itemN_cons] at h
        by_cases c1 : w = OPEN
        · rw [if_pos c1] at h
          cases d with
          | zero => cases h
          | succ d =>
            dsimp only at h
            cases e : itemsN ls d (some SHUT) r with
            | none => rw [e] at h; cases h
            | some x =>
              obtain ⟨l, z'⟩ := x
              rw [e] at h
              cases l with
              | nil => cases h
              | cons j l =>
                obtain ⟨⟨f, ef⟩, hz⟩ := times_mk h
                obtain ⟨k1, k2⟩ := (ih r hr d).2 _ _ _ e
                rw [if_neg (by simp)] at k2
                subst ef
                refine ⟨⟨d, rfl, k1⟩, ?_⟩
                show wIs (.cons j l) + 3 + _ ≤ _
                rw [List.length_cons]
                omega
        · rw [if_neg c1] at h
          by_cases c2 : w = BEGIN
          · rw [if_pos c2] at h
            cases d with
            | zero => cases h
            | succ d =>
              dsimp only at h
              cases e : itemsN ls d (some END) r with
              | none => rw [e] at h; cases h
              | some x =>
                obtain ⟨l, z'⟩ := x
                rw [e] at h
                cases l with
                | nil => cases h
                | cons j l =>
                  obtain ⟨⟨f, ef⟩, hz⟩ := fill_mk h
                  obtain ⟨k1, k2⟩ := (ih r hr d).2 _ _ _ e
                  rw [if_neg (by simp)] at k2
                  subst ef
                  refine ⟨⟨d, rfl, k1⟩, ?_⟩
                  show wIs (.cons j l) + 4 + _ ≤ _
                  rw [List.length_cons]
                  omega
          · rw [if_neg c2] at h
            cases e : idxOf NAMES w with
            | none => rw [e] at h; cases h
            | some s =>
              rw [e] at h
              obtain ⟨⟨f, ef⟩, hz⟩ := times_mk h
              subst ef
              refine ⟨trivial, ?_⟩
              show 2 + _ ≤ _
              rw [List.length_cons]
              omega
      refine ⟨hI, fun c l z h => ?_⟩
      rw [itemsN_cons] at h
      by_cases cw : some w = c
      · rw [if_pos cw] at h
        cases h
        refine ⟨trivial, ?_⟩
        rw [if_neg (by rw [← cw]; simp), List.length_cons]
        show 0 + _ + 2 ≤ _
        omega
      · rw [if_neg cw] at h
        cases ex : itemN ls d (w :: r) with
        | none => rw [ex] at h; cases h
        | some x =>
          obtain ⟨i, q⟩ := x
          obtain ⟨k, k0, hk, ek⟩ := itemN_drop ex
          have hq : q.length ≤ n := by rw [ek, List.length_drop]; omega
          rw [ex] at h
          dsimp only at h
          cases ey : itemsN ls d c q with
          | none => rw [ey] at h; cases h
          | some y =>
            obtain ⟨m, z'⟩ := y
            rw [ey] at h
            cases h
            obtain ⟨k1, k2⟩ := hI i q ex
            obtain ⟨k3, k4⟩ := (ih q hq d).2 _ _ _ ey
            refine ⟨⟨k1, k3⟩, ?_⟩
            show wI i + wIs m + _ + _ ≤ _
            omega
theorem rowIn_deep {ls : List Text} {ws : List Text} {l : Items} (h : rowIn ls ws = some l) : DeepIs l 3 ∧ wIs l ≤ 2 * ws.length := by
  rw [rowIn_eq] at h
  cases e : itemsN ls 3 none ws with
  | none => rw [e] at h; cases h
  | some x =>
    obtain ⟨m, z⟩ := x
    rw [e] at h
    have g := (items_deep ws.length ws (Nat.le_refl _) 3).2 _ _ _ e
    match m, z, h with
    | .cons i m, [], h =>
      cases h
      rw [if_pos rfl] at g
      exact ⟨g.1, by have := g.2; simp at this; exact this⟩
/-- a row that was read -/
structure RowG (n : Nat) (x : Text × Items) : Prop where
  name : isName x.1 = true
  good : GoodIs n x.2
  deep : DeepIs x.2 3
  few : wIs x.2 ≤ 80
mutual
def PartOk (n : Nat) (rows : List (Text × Items)) : Part → Nat → Prop
  | .row k nm l => fun _ => rows[k]? = some (nm, l)
  | .again f l => fun d => ∃ e, d = e + 1 ∧ GoodF n f ∧ PartsOk n rows l e
def PartsOk (n : Nat) (rows : List (Text × Items)) : Parts → Nat → Prop
  | .nil => fun _ => True
  | .cons p r => fun d => PartOk n rows p d ∧ PartsOk n rows r d
end
mutual
def nP : Part → Nat
  | .row _ _ _ => 1
  | .again _ l => nPs l + 1
def nPs : Parts → Nat
  | .nil => 0
  | .cons p r => nP p + nPs r
end
mutual
theorem PartOk.more {n : Nat} {rows : List (Text × Items)} (x : Text × Items) : ∀ {p : Part} {d : Nat}, PartOk n rows p d → PartOk n (rows ++ [x]) p d
  | .row k nm l, _, h => by
    have h' : rows[k]? = some (nm, l) := h
    show (rows ++ [x])[k]? = some (nm, l)
    rw [List.getElem?_append_left (List.getElem?_eq_some_iff.mp h').1]
    exact h'
  | .again f l, _, ⟨e, h1, h2, h3⟩ => ⟨e, h1, h2, PartsOk.more x h3⟩
theorem PartsOk.more {n : Nat} {rows : List (Text × Items)} (x : Text × Items) : ∀ {l : Parts} {d : Nat}, PartsOk n rows l d → PartsOk n (rows ++ [x]) l d
  | .nil, _, _ => trivial
  | .cons p r, _, ⟨h1, h2⟩ => ⟨PartOk.more x h1, PartsOk.more x h2⟩
end
theorem partsOk_app {n : Nat} {rows : List (Text × Items)} : ∀ {a b : Parts} {d : Nat}, PartsOk n rows a d → PartsOk n rows b d → PartsOk n rows (appP a b) d
  | .nil, _, _, _, h => h
  | .cons p r, _, _, ⟨h1, h2⟩, h => ⟨h1, partsOk_app h2 h⟩
theorem allRows_app : ∀ (a b : Parts), allRows (appP a b) = allRows a ++ allRows b
  | .nil, b => by show allRows b = allRows .nil ++ allRows b; rw [show allRows .nil = [] by rw [allRows.eq_def]]; rfl
  | .cons p r, b => by
    show allRows (.cons p (appP r b)) = _
    rw [show allRows (.cons p (appP r b)) = rowsOf p ++ allRows (appP r b) by rw [allRows.eq_def], allRows_app r b, show allRows (.cons p r) = rowsOf p ++ allRows r by rw [allRows.eq_def], List.append_assoc]
theorem nPs_app : ∀ (a b : Parts), nPs (appP a b) = nPs a + nPs b
  | .nil, b => by show nPs b = 0 + nPs b; omega
  | .cons p r, b => by
    show nP p + nPs (appP r b) = nP p + nPs r + nPs b
    rw [nPs_app r b]; omega
/-- the open blocks: each within its depth -/
def BlksOk (n : Nat) (rows : List (Text × Items)) : List Blk → Prop
  | [] => True
  | b :: r => GoodF n b.form ∧ PartsOk n rows b.parts (3 - (r.length + 1)) ∧ BlksOk n rows r
theorem BlksOk.more {n : Nat} {rows : List (Text × Items)} (x : Text × Items) : ∀ {l : List Blk}, BlksOk n rows l → BlksOk n (rows ++ [x]) l
  | [], _ => trivial
  | _ :: _, ⟨h1, h2, h3⟩ => ⟨h1, h2.more x, h3.more x⟩
def rowsB (l : List Blk) : List (Text × Items) := l.reverse.flatMap fun b => allRows b.parts
def nB (l : List Blk) : Nat := (l.map fun b => nPs b.parts).sum
structure BodyI (n m : Nat) (s : RD) (c : Form) : Prop where
  cast : GoodF n c
  rowg : ∀ x ∈ s.rows, RowG n x
  base : PartsOk n s.rows s.o.base 3
  blks : BlksOk n s.rows s.o.blks
  all : allRows s.o.base ++ rowsB s.o.blks = s.rows
  few : nPs s.o.base + nB s.o.blks + s.o.blks.length ≤ m
theorem allRows_nil : allRows .nil = [] := by rw [allRows.eq_def]
theorem allRows_one (p : Part) : allRows (.cons p .nil) = rowsOf p := by
  rw [allRows.eq_def]
  dsimp only
  rw [allRows_nil, List.append_nil]
theorem rowsB_cons (b : Blk) (r : List Blk) : rowsB (b :: r) = rowsB r ++ allRows b.parts := by
  unfold rowsB
  rw [List.reverse_cons, List.flatMap_append]
  congr 1
  rw [List.flatMap_cons]
  show allRows b.parts ++ [] = _
  rw [List.append_nil]
/-- a part more -/
theorem push_ok {n : Nat} {rows : List (Text × Items)} {o : Open} {p : Part} (hb : PartsOk n rows o.base 3) (hk : BlksOk n rows o.blks) (hp : PartOk n rows p (3 - o.blks.length)) :
    PartsOk n rows (o.push p).base 3 ∧ BlksOk n rows (o.push p).blks ∧ allRows (o.push p).base ++ rowsB (o.push p).blks = allRows o.base ++ rowsB o.blks ++ rowsOf p ∧ nPs (o.push p).base + nB (o.push p).blks = nPs o.base + nB o.blks + nP p := by
  obtain ⟨blks, base⟩ := o
  cases blks with
  | nil =>
    refine ⟨partsOk_app hb ⟨hp, trivial⟩, trivial, ?_, ?_⟩
    · show allRows (appP base (.cons p .nil)) ++ [] = allRows base ++ [] ++ rowsOf p
      rw [allRows_app, allRows_one, List.append_nil, List.append_nil]
    · show nPs (appP base (.cons p .nil)) + 0 = nPs base + 0 + nP p
      rw [nPs_app]
      show nPs base + (nP p + 0) + 0 = _
      omega
  | cons b r =>
    obtain ⟨k1, k2, k3⟩ := hk
    refine ⟨hb, ⟨k1, partsOk_app k2 ⟨hp, trivial⟩, k3⟩, ?_, ?_⟩
    · show allRows base ++ rowsB (_ :: r) = allRows base ++ rowsB (b :: r) ++ rowsOf p
      rw [rowsB_cons, rowsB_cons]
      show allRows base ++ (rowsB r ++ allRows (appP b.parts (.cons p .nil))) = _
      rw [allRows_app, allRows_one]
      simp only [List.append_assoc]
    · show nPs base + (nPs (appP b.parts (.cons p .nil)) + nB r) = nPs base + (nPs b.parts + nB r) + nP p
      rw [nPs_app]
      show nPs base + (nPs b.parts + (nP p + 0) + nB r) = _
      omega
end Kn
namespace Kn
open Vbktaa
/-- a letter that was read -/
structure SizeG (z : Size) : Prop where
  name : ∃ n, z.name = [n] ∧ small n = true
  lo : z.lo ≤ 1000
  step : 1 ≤ z.step ∧ z.step ≤ 100
  hi : ∀ h, z.hi = some h → h ≤ 1000
theorem size_core {ss : List Size} {w : Text} {a' s' : Nat} {g' : Option Nat} {z : Size} (h : (if w.length ≠ 1 ∨ w.all small = false ∨ w = word "k" ∨ w = word "p" ∨ 1000 < a' ∨ s' = 0 ∨ 100 < s' ∨ (g'.any fun x => decide (x < a' ∨ 1000 < x)) = true then (.inl 1 : Nat ⊕ Size) else if (ss.any fun x => x.name == w) = true then .inl 2 else if SIZES ≤ ss.length then .inl 4 else .inr ⟨w, a', s', g'⟩) = .inr z) : SizeG z := by
  by_cases c1 : w.length ≠ 1 ∨ w.all small = false ∨ w = word "k" ∨ w = word "p" ∨ 1000 < a' ∨ s' = 0 ∨ 100 < s' ∨ (g'.any fun x => decide (x < a' ∨ 1000 < x)) = true
  · rw [if_pos c1] at h; cases h
  · rw [if_neg c1] at h
    by_cases c2 : (ss.any fun x => x.name == w) = true
    · rw [if_pos c2] at h; cases h
    · rw [if_neg c2] at h
      by_cases c3 : SIZES ≤ ss.length
      · rw [if_pos c3] at h; cases h
      · rw [if_neg c3] at h
        cases h
        simp only [not_or] at c1
        obtain ⟨d1, d2, d3, d4, d5, d6, d7, d8⟩ := c1
        refine ⟨?_, by show a' ≤ 1000; omega, ⟨by show 1 ≤ s'; omega, by show s' ≤ 100; omega⟩, fun x hx => ?_⟩
        · have hl : w.length = 1 := by omega
          match w, hl with
          | [n], _ =>
            refine ⟨n, rfl, ?_⟩
            cases e : small n with
            | true => rfl
            | false => exact absurd (by rw [List.all_cons, e]; rfl) d2
        · have hx' : g' = some x := hx
          subst hx'
          rw [Option.any_some, decide_eq_true_eq] at d8
          omega
theorem size_good {ss : List Size} {ws : List Text} {z : Size} (h : readSize ss ws = .inr z) : SizeG z := by
  unfold readSize at h
  match ws, h with
  | [_, w, a, s], h =>
    dsimp only at h
    cases ha : natOf 4 a with
    | none => rw [ha] at h; cases h
    | some a' =>
      cases hs : natOf 3 s with
      | none => rw [ha, hs] at h; cases h
      | some s' =>
        rw [ha, hs] at h
        exact size_core h
  | [_, w, a, s, g], h =>
    dsimp only at h
    cases ha : natOf 4 a with
    | none => rw [ha] at h; cases h
    | some a' =>
      cases hs : natOf 3 s with
      | none => rw [ha, hs] at h; cases h
      | some s' =>
        cases hg : natOf 4 g with
        | none => rw [ha, hs, hg] at h; cases h
        | some g' =>
          rw [ha, hs, hg] at h
          exact size_core h
  | _ :: w :: a :: s :: _ :: _ :: _, h =>
    dsimp only at h
    cases ha : natOf 4 a with
    | none => rw [ha] at h; cases h
    | some a' =>
      cases hs : natOf 3 s with
      | none => rw [ha, hs] at h; cases h
      | some s' => rw [ha, hs] at h; cases h
def SizesG (ss : List Size) : Prop := ∀ z ∈ ss, SizeG z
theorem SizesG.lets {ss : List Size} (h : SizesG ss) : snm ss = lets (ss.map fun s => s.name.headD 0) := by
  unfold Kn.lets snm
  rw [List.map_map]
  refine List.map_congr_left fun s hs => ?_
  obtain ⟨n, e, _⟩ := (h s hs).name
  show s.name = [s.name.headD 0]
  rw [e]; rfl
theorem kind_row_is {ls : List Text} {ws : List Text} {name : Text} {l : Items} (h : kindOf ls ws = .row name l) : isName name = true ∧ ∃ r, rowIn ls r = some l ∧ r.length ≤ 38 := by
  unfold kindOf at h
  by_cases c1 : ws = [word "off"]
  · rw [if_pos c1] at h; cases h
  · rw [if_neg c1] at h
    by_cases c2 : ws = [word "end"]
    · rw [if_pos c2] at h; cases h
    · rw [if_neg c2] at h
      match ws, h with
      | w :: nm :: r, h =>
        dsimp only at h
        by_cases c3 : w = word "row"
        · rw [if_pos c3] at h
          by_cases c4 : isName nm = false ∨ WORDS < (w :: nm :: r).length
          · rw [if_pos c4] at h; cases h
          · rw [if_neg c4] at h
            simp only [not_or] at c4
            cases e : rowIn ls r with
            | none => rw [e] at h; cases h
            | some l' =>
              rw [e] at h
              cases h
              refine ⟨by simpa using c4.1, _, e, ?_⟩
              have c5 : ¬ 40 < (w :: name :: r).length := c4.2
              simp at c5
              omega
        · rw [if_neg c3] at h
          by_cases c5 : w = word "again" ∧ r.isEmpty = true
          · rw [if_pos c5] at h
            cases e : formOf ls nm with
            | none => rw [e] at h; cases h
            | some f => rw [e] at h; cases h
          · rw [if_neg c5] at h; cases h
theorem kind_again_is {ls : List Text} {ws : List Text} {t : Form} (h : kindOf ls ws = .again t) : ∃ nm, formOf ls nm = some t := by
  unfold kindOf at h
  by_cases c1 : ws = [word "off"]
  · rw [if_pos c1] at h; cases h
  · rw [if_neg c1] at h
    by_cases c2 : ws = [word "end"]
    · rw [if_pos c2] at h; cases h
    · rw [if_neg c2] at h
      match ws, h with
      | w :: nm :: r, h =>
        dsimp only at h
        by_cases c3 : w = word "row"
        · rw [if_pos c3] at h
          by_cases c4 : isName nm = false ∨ WORDS < (w :: nm :: r).length
          · rw [if_pos c4] at h; cases h
          · rw [if_neg c4] at h
            cases e : rowIn ls r with
            | none => rw [e] at h; cases h
            | some l' => rw [e] at h; cases h
        · rw [if_neg c3] at h
          by_cases c5 : w = word "again" ∧ r.isEmpty = true
          · rw [if_pos c5] at h
            cases e : formOf ls nm with
            | none => rw [e] at h; cases h
            | some f => rw [e] at h; cases h; exact ⟨nm, e⟩
          · rw [if_neg c5] at h; cases h
/-- a line of the body keeps what holds -/
theorem body_ok {k m : Nat} {s s' : RD} {c : Form} {b : Bool} {ws : List Text} (hN : SizesG s.ss) (hc : s.cast = some c) (hI : BodyI s.ss.length m s c) (hF : Fit k s) (h : stepR k s ws = .inr (s', b)) :
    s'.cast = some c ∧ s'.ss = s.ss ∧ BodyI s.ss.length (m + 1) s' c ∧ (b = true → s'.o.blks = []) := by
  rw [step_body hc] at h
  have eL := hN.lets
  have lenL : (s.ss.map fun s => s.name.headD 0).length = s.ss.length := List.length_map _
  cases hk : kindOf (snm s.ss) ws with
  | bad => rw [hk] at h; cases h
  | off =>
    rw [hk] at h
    dsimp only at h
    by_cases h1 : s.o.blks ≠ []
    · rw [if_pos h1] at h; cases h
    · rw [if_neg h1] at h
      cases e : s.o.base with
      | nil => rw [e] at h; cases h
      | cons x y =>
        rw [e] at h
        cases h
        exact ⟨hc, rfl, ⟨hI.cast, hI.rowg, hI.base, hI.blks, hI.all, Nat.le_succ_of_le hI.few⟩, fun _ => by simpa using h1⟩
  | fin =>
    rw [hk] at h
    dsimp only at h
    cases e : s.o.blks with
    | nil => rw [e] at h; cases h
    | cons bk r =>
      rw [e] at h
      dsimp only at h
      cases e2 : bk.parts with
      | nil => rw [e2] at h; cases h
      | cons x y =>
        rw [e2] at h
        cases h
        have hb := hI.blks
        have hall := hI.all
        have hfew := hI.few
        rw [e] at hb hall hfew
        obtain ⟨k1, k2, k3⟩ := hb
        have hd := hF.deep
        rw [e] at hd
        simp at hd
        have hp : PartOk s.ss.length s.rows (.again bk.form bk.parts) (3 - r.length) := ⟨3 - (r.length + 1), by omega, k1, k2⟩
        obtain ⟨p1, p2, p3, p4⟩ := push_ok (o := ⟨r, s.o.base⟩) hI.base k3 hp
        rw [e2] at p1 p2 p3 p4
        refine ⟨rfl, rfl, ⟨hI.cast, hI.rowg, p1, p2, ?_, ?_⟩, fun z => nomatch z⟩
        · show allRows (Open.push _ _).base ++ rowsB (Open.push _ _).blks = s.rows
          rw [p3, ← hall, rowsB_cons, List.append_assoc]
          congr 2
          rw [← e2, rowsOf.eq_def]
        · show nPs (Open.push _ _).base + nB (Open.push _ _).blks + (Open.push _ _).blks.length ≤ m + 1
          rw [p4, push_len]
          show nPs s.o.base + nB r + nP (.again bk.form (.cons x y)) + r.length ≤ m + 1
          have e3 : nB (bk :: r) = nPs bk.parts + nB r := rfl
          have e4 : nP (.again bk.form (.cons x y)) = nPs bk.parts + 1 := by rw [e2]; rfl
          rw [e3] at hfew
          rw [e4]
          simp at hfew
          omega
  | row name l =>
    rw [hk] at h
    dsimp only at h
    by_cases h1 : s.nms.contains name = true
    · rw [if_pos h1] at h; cases h
    · rw [if_neg h1] at h
      by_cases h2 : 20 ≤ s.rows.length
      · rw [if_pos h2] at h; cases h
      · rw [if_neg h2] at h
        cases h
        obtain ⟨n1, r, n2, n3⟩ := kind_row_is hk
        have nd := rowIn_deep n2
        rw [eL] at n2
        have ng := rowIn_good n2
        rw [lenL] at ng
        have hp : PartOk s.ss.length (s.rows ++ [(name, l)]) (.row s.rows.length name l) (3 - s.o.blks.length) := by
          show (s.rows ++ [(name, l)])[s.rows.length]? = some (name, l)
          rw [List.getElem?_append_right (Nat.le_refl _), Nat.sub_self]; rfl
        obtain ⟨p1, p2, p3, p4⟩ := push_ok (o := s.o) (hI.base.more (name, l)) (hI.blks.more (name, l)) hp
        refine ⟨rfl, rfl, ⟨hI.cast, ?_, p1, p2, ?_, ?_⟩, fun z => nomatch z⟩
        · intro x hx
          have hx' : x ∈ s.rows ++ [(name, l)] := hx
          rcases List.mem_append.mp hx' with q | q
          · exact hI.rowg x q
          · rw [List.mem_singleton.mp q]
            exact ⟨n1, ng, nd.1, by have := nd.2; show wIs l ≤ 80; omega⟩
        · show allRows (Open.push _ _).base ++ rowsB (Open.push _ _).blks = s.rows ++ [(name, l)]
          rw [p3, hI.all, rowsOf.eq_def]
        · show nPs (Open.push _ _).base + nB (Open.push _ _).blks + (Open.push _ _).blks.length ≤ m + 1
          rw [p4, push_len]
          have := hI.few
          show nPs s.o.base + nB s.o.blks + 1 + s.o.blks.length ≤ m + 1
          omega
  | again t =>
    rw [hk] at h
    dsimp only at h
    by_cases h1 : s.o.blks.length = 3
    · rw [if_pos h1] at h; cases h
    · rw [if_neg h1] at h
      cases h
      obtain ⟨nm, n1⟩ := kind_again_is hk
      rw [eL] at n1
      have ng := good_form n1
      rw [lenL] at ng
      refine ⟨rfl, rfl, ⟨hI.cast, hI.rowg, hI.base, ⟨ng, trivial, hI.blks⟩, ?_, ?_⟩, fun z => nomatch z⟩
      · show allRows s.o.base ++ rowsB (_ :: s.o.blks) = s.rows
        rw [rowsB_cons, allRows_nil, List.append_nil]
        exact hI.all
      · show nPs s.o.base + (0 + nB s.o.blks) + (s.o.blks.length + 1) ≤ m + 1
        have := hI.few
        omega
/-- what a text that was read is -/
structure ReadG (m : Nat) (q : Pattern) (rows : List (Text × Items)) : Prop where
  sizes : SizesG q.sizes
  cast : GoodF q.sizes.length q.cast
  rowg : ∀ x ∈ rows, RowG q.sizes.length x
  parts : PartsOk q.sizes.length rows q.parts 3
  all : allRows q.parts = rows
  few : nPs q.parts ≤ m
theorem run_ok : ∀ (lines : List (List Text)) (k m : Nat) (s s' : RD), 1 ≤ k → SizesG s.ss → Fit k s → (s.cast = none → s.rows = [] ∧ s.o = ⟨[], .nil⟩) → (∀ c, s.cast = some c → BodyI s.ss.length m s c) → runR k s lines = .inr s' →
    ∃ c, s'.cast = some c ∧ s'.o.blks = [] ∧ SizesG s'.ss ∧ BodyI s'.ss.length (m + lines.length) s' c
  | [], k, m, s, s', _, _, _, _, _, h => by cases h
  | ws :: rest, k, m, s, s', hk, hN, hF, h0, h1, h => by
    unfold runR at h
    have hcs := step_cases (ws := ws) hk hF
    cases e : stepR k s ws with
    | inl er => rw [e] at h; cases h
    | inr x =>
      obtain ⟨t, b⟩ := x
      rw [e] at h hcs
      dsimp only at h hcs
      cases hc : s.cast with
      | none =>
        obtain ⟨er, eo⟩ := h0 hc
        have e' := e
        rw [step_head hc] at e'
        by_cases c1 : ws.head? = some (word "size")
        · rw [if_pos c1] at e'
          cases ez : readSize s.ss ws with
          | inl z => rw [ez] at e'; cases e'
          | inr z =>
            rw [ez] at e'
            cases e'
            dsimp only at h
            obtain ⟨c, r1, r2, r3, r4⟩ := run_ok rest (k + 1) m _ s' (by omega) (fun y hy => by
              rcases List.mem_append.mp hy with q | q
              · exact hN y q
              · rw [List.mem_singleton.mp q]; exact size_good ez) hcs (fun _ => ⟨er, eo⟩) (fun c z => nomatch z) h
            exact ⟨c, r1, r2, r3, r4.cast, r4.rowg, r4.base, r4.blks, r4.all, by have := r4.few; simp; omega⟩
        · rw [if_neg c1] at e'
          match ws, e' with
          | [w, tt], e' =>
            dsimp only at e'
            by_cases c2 : w = word "cast"
            · rw [if_pos c2] at e'
              cases ef : formOf (snm s.ss) tt with
              | none => rw [ef] at e'; cases e'
              | some f =>
                rw [ef] at e'
                cases e'
                dsimp only at h
                have eg : GoodF s.ss.length f := by
                  rw [hN.lets] at ef
                  have := good_form ef
                  rw [List.length_map] at this
                  exact this
                obtain ⟨c, r1, r2, r3, r4⟩ := run_ok rest (k + 1) m ⟨s.ss, some f, s.rows, s.o⟩ s' (by omega) hN hcs (fun z => nomatch z) (fun c z => by
                  cases z
                  rw [er, eo]
                  exact ⟨eg, fun x hx => absurd hx (List.not_mem_nil), trivial, trivial, by show allRows .nil ++ [] = []; rw [allRows_nil]; rfl, Nat.zero_le _⟩) h
                exact ⟨c, r1, r2, r3, r4.cast, r4.rowg, r4.base, r4.blks, r4.all, by have := r4.few; simp; omega⟩
            · rw [if_neg c2] at e'; cases e'
      | some c =>
        obtain ⟨q1, q2, q3, q4⟩ := body_ok hN hc (h1 c hc) hF e
        cases b with
        | true =>
          dsimp only at h
          by_cases hr : rest.isEmpty = true
          · rw [if_pos hr] at h
            cases h
            refine ⟨c, q1, q4 rfl, by rw [q2]; exact hN, ?_⟩
            rw [q2]
            exact ⟨q3.cast, q3.rowg, q3.base, q3.blks, q3.all, by have := q3.few; simp; omega⟩
          · rw [if_neg hr] at h; cases h
        | false =>
          dsimp only at h
          obtain ⟨c', r1, r2, r3, r4⟩ := run_ok rest (k + 1) (m + 1) t s' (by omega) (by rw [q2]; exact hN) hcs (fun z => by rw [q1] at z; cases z) (fun c2 z => by
            rw [q1] at z
            cases z
            rw [q2]; exact q3) h
          exact ⟨c', r1, r2, r3, r4.cast, r4.rowg, r4.base, r4.blks, r4.all, by have := r4.few; simp; omega⟩
end Kn
namespace Kn
open Vbktaa
/-! ### rows and blocks knit: the equations, and what becomes of the steps -/
theorem knitPart_zero (v : List Int) (p : Part) (x : Piece) : knitPart v 0 p x = .error ⟨x.rows.length, none, 5⟩ := by rw [knitPart.eq_def]
theorem knitPart_row (v : List Int) (f k : Nat) (nm : Text) (l : Items) (x : Piece) : knitPart v (f + 1) (.row k nm l) x = if x.left = 0 then .error ⟨x.rows.length, none, 5⟩ else match runItems v FUEL l ⟨x.width, [], x.left - 1⟩ with
      | .error e => .error ⟨x.rows.length, some k, e⟩
      | .ok r => if r.rem ≠ 0 then .error ⟨x.rows.length, some k, 4⟩ else .ok ⟨made r.out, (k, r.out.reverse) :: x.rows, r.left⟩ := by
  rw [knitPart.eq_def]
  dsimp only
  by_cases c : x.left = 0
  · rw [if_pos c, if_pos c]
  · rw [if_neg c, if_neg c]
    cases runItems v FUEL l ⟨x.width, [], x.left - 1⟩ with
    | error e => rfl
    | ok r => rfl
theorem knitPart_again (v : List Int) (f : Nat) (t : Form) (l : Parts) (x : Piece) : knitPart v (f + 1) (.again t l) x = if x.left = 0 then .error ⟨x.rows.length, none, 5⟩ else
      if value v t < 0 then .error ⟨x.rows.length, none, 1⟩ else if ((x.left - 1 : Nat) : Int) < value v t then .error ⟨x.rows.length, none, 5⟩ else knitTimes v f l (value v t).toNat { x with left := x.left - 1 } := by
  rw [knitPart.eq_def]
theorem knitTimes_zero (v : List Int) (l : Parts) (k : Nat) (x : Piece) : knitTimes v 0 l k x = .error ⟨x.rows.length, none, 5⟩ := by rw [knitTimes.eq_def]
theorem knitTimes_none (v : List Int) (f : Nat) (l : Parts) (x : Piece) : knitTimes v (f + 1) l 0 x = .ok x := by rw [knitTimes.eq_def]
theorem knitTimes_succ (v : List Int) (f : Nat) (l : Parts) (k : Nat) (x : Piece) : knitTimes v (f + 1) l (k + 1) x = (knitParts v f l x).bind fun y => knitTimes v f l k y := by rw [knitTimes.eq_def]
theorem knitParts_zero (v : List Int) (l : Parts) (x : Piece) : knitParts v 0 l x = .error ⟨x.rows.length, none, 5⟩ := by rw [knitParts.eq_def]
theorem knitParts_nil (v : List Int) (f : Nat) (x : Piece) : knitParts v (f + 1) .nil x = .ok x := by rw [knitParts.eq_def]
theorem knitParts_cons (v : List Int) (f : Nat) (p : Part) (l : Parts) (x : Piece) : knitParts v (f + 1) (.cons p l) x = (knitPart v f p x).bind fun y => knitParts v f l y := by rw [knitParts.eq_def]
def nilPs : Parts → Bool
  | .nil => true
  | .cons _ _ => false
structure PartLeft (v : List Int) (f : Nat) : Prop where
  part : ∀ (p : Part) (x y : Piece), x.left ≤ 1500 → knitPart v f p x = .ok y → y.left < x.left
  times : ∀ (l : Parts) (k : Nat) (x y : Piece), x.left ≤ 1500 → knitTimes v f l k x = .ok y → y.left ≤ x.left
  parts : ∀ (l : Parts) (x y : Piece), x.left ≤ 1500 → knitParts v f l x = .ok y → y.left ≤ x.left ∧ (nilPs l = false → y.left < x.left)
theorem part_left (v : List Int) : ∀ f, PartLeft v f
  | 0 => ⟨fun p x y _ h => (by rw [knitPart_zero] at h; cases h), fun l k x y _ h => (by rw [knitTimes_zero] at h; cases h), fun l x y _ h => (by rw [knitParts_zero] at h; cases h)⟩
  | f + 1 => by
    have ih := part_left v f
    refine ⟨fun p x y hx h => ?_, fun l k x y hx h => ?_, fun l x y hx h => ?_⟩
    · cases p with
      | row k nm l =>
        rw [knitPart_row] at h
        by_cases c : x.left = 0
        · rw [if_pos c] at h; cases h
        · rw [if_neg c] at h
          cases e : runItems v FUEL l ⟨x.width, [], x.left - 1⟩ with
          | error w => rw [e] at h; cases h
          | ok r =>
            rw [e] at h
            dsimp only at h
            by_cases c2 : r.rem ≠ 0
            · rw [if_pos c2] at h; cases h
            · rw [if_neg c2] at h
              cases h
              have := ((fuel_at v (x.left - 1)).items l ⟨x.width, [], x.left - 1⟩ rfl FUEL FUEL (by show 3 * (x.left - 1) + 1 ≤ 9100; omega) (by show 3 * (x.left - 1) + 1 ≤ 9100; omega)).2 r e
              show r.left < x.left
              omega
      | again t l =>
        rw [knitPart_again] at h
        by_cases c : x.left = 0
        · rw [if_pos c] at h; cases h
        · rw [if_neg c] at h
          by_cases c1 : value v t < 0
          · rw [if_pos c1] at h; cases h
          · rw [if_neg c1] at h
            by_cases c2 : ((x.left - 1 : Nat) : Int) < value v t
            · rw [if_pos c2] at h; cases h
            · rw [if_neg c2] at h
              have := ih.times l _ _ y (show x.left - 1 ≤ 1500 by omega) h
              have h' : y.left ≤ x.left - 1 := this
              omega
    · cases k with
      | zero => rw [knitTimes_none] at h; cases h; exact Nat.le_refl _
      | succ k =>
        rw [knitTimes_succ] at h
        obtain ⟨z, h1, h2⟩ := bind_ok h
        have a := (ih.parts l x z hx h1).1
        have b := ih.times l k z y (by omega) h2
        omega
    · cases l with
      | nil => rw [knitParts_nil] at h; cases h; exact ⟨Nat.le_refl _, fun z => nomatch z⟩
      | cons p l =>
        rw [knitParts_cons] at h
        obtain ⟨z, h1, h2⟩ := bind_ok h
        have a := ih.part p x z hx h1
        have b := (ih.parts l z y (by omega) h2).1
        exact ⟨by omega, fun _ => by omega⟩
end Kn
namespace Kn
open Vbktaa
/-! ### words joined -/
theorem joined_snoc (c : Nat) (w : Text) : ∀ (ws : List Text), joined c (ws ++ [w]) = if ws = [] then w else joined c ws ++ c :: w
  | [] => rfl
  | [a] => rfl
  | a :: b :: r => by
    have ih := joined_snoc c w (b :: r)
    rw [if_neg (by simp)] at ih ⊢
    show a ++ c :: joined c ((b :: r) ++ [w]) = (a ++ c :: joined c (b :: r)) ++ c :: w
    rw [ih]
    simp
theorem joined_len (c m : Nat) : ∀ (ws : List Text), (∀ w ∈ ws, w.length ≤ m) → (joined c ws).length ≤ (m + 1) * ws.length
  | [], _ => by simp [joined]
  | [a], h => by
    have := h a (by simp)
    show a.length ≤ _
    rw [List.length_singleton]; omega
  | a :: b :: r, h => by
    have h1 := h a (by simp)
    have ih := joined_len c m (b :: r) fun w hw => h w (List.mem_cons_of_mem _ hw)
    show (a ++ c :: joined c (b :: r)).length ≤ _
    rw [List.length_append, List.length_cons, List.length_cons (a := a), Nat.mul_add]
    omega
theorem line_len {m : Nat} {ws : List Text} (h : ∀ w ∈ ws, w.length ≤ m) : (line ws).length ≤ (m + 1) * ws.length + 1 := by
  unfold line
  rw [List.length_append, List.length_singleton]
  have := joined_len 32 m ws h
  omega
theorem flatMap_snoc {α β : Type} (f : α → List β) (l : List α) (x : α) : (l ++ [x]).flatMap f = l.flatMap f ++ f x := by
  rw [List.flatMap_append]; simp
end Kn
namespace Kn
open Vbktaa
/-! ### stitches done are few, and are stitches -/
structure RunG (r q : Run) : Prop where
  out : (∀ s ∈ r.out, s < 8) → ∀ s ∈ q.out, s < 8
  few : q.out.length + q.left ≤ r.out.length + r.left
theorem RunG.refl (r : Run) : RunG r r := ⟨id, Nat.le_refl _⟩
theorem RunG.trans {a b c : Run} (h : RunG a b) (g : RunG b c) : RunG a c := ⟨fun z => g.out (h.out z), Nat.le_trans g.few h.few⟩
structure RunGs (v : List Int) (n f : Nat) : Prop where
  item : ∀ (i : Item) (r q : Run), GoodI n i → runItem v f i r = .ok q → RunG r q
  times : ∀ (l : Items) (k : Nat) (r q : Run), GoodIs n l → runTimes v f l k r = .ok q → RunG r q
  fill : ∀ (l : Items) (k : Nat) (r q : Run), GoodIs n l → runFill v f l k r = .ok q → RunG r q
  items : ∀ (l : Items) (r q : Run), GoodIs n l → runItems v f l r = .ok q → RunG r q
theorem run_g (v : List Int) (n : Nat) : ∀ f, RunGs v n f := by
  intro f
  induction f with
  | zero => exact ⟨fun i r q _ h => (by rw [runItem_zero] at h; cases h), fun l k r q _ h => (by rw [runTimes_zero] at h; cases h), fun l k r q _ h => (by rw [runFill_zero] at h; cases h), fun l r q _ h => (by rw [runItems_zero] at h; cases h)⟩
  | succ f ih =>
    refine ⟨fun i r q hg h => ?_, fun l k r q hg h => ?_, fun l k r q hg h => ?_, fun l r q hg h => ?_⟩
    · rw [runItem_succ] at h
      by_cases c : r.left = 0
      · rw [if_pos c] at h; cases h
      · rw [if_neg c] at h
        have base : RunG r { r with left := r.left - 1 } := ⟨id, by show r.out.length + (r.left - 1) ≤ _; omega⟩
        cases i with
        | st s t =>
          dsimp only at h
          by_cases c1 : value v t < 0
          · rw [if_pos c1] at h; cases h
          · rw [if_neg c1] at h
            by_cases c2 : ((r.left - 1 : Nat) : Int) < value v t
            · rw [if_pos c2] at h; cases h
            · rw [if_neg c2] at h
              by_cases c3 : r.rem < (value v t).toNat * uses s
              · rw [if_pos c3] at h; cases h
              · rw [if_neg c3] at h
                cases h
                refine ⟨fun z x hx => ?_, ?_⟩
                · rcases List.mem_append.mp hx with m | m
                  · rw [List.eq_of_mem_replicate m]; exact hg.1
                  · exact z x m
                · show (List.replicate _ s ++ r.out).length + (r.left - 1 - _) ≤ _
                  rw [List.length_append, List.length_replicate]
                  omega
        | group l t =>
          dsimp only at h
          by_cases c1 : value v t < 0
          · rw [if_pos c1] at h; cases h
          · rw [if_neg c1] at h
            by_cases c2 : ((r.left - 1 : Nat) : Int) < value v t
            · rw [if_pos c2] at h; cases h
            · rw [if_neg c2] at h
              exact base.trans (ih.times l _ _ q hg.1 h)
        | fill l t =>
          dsimp only at h
          by_cases c1 : value v t < 0
          · rw [if_pos c1] at h; cases h
          · rw [if_neg c1] at h
            by_cases c2 : (r.rem : Int) < value v t
            · rw [if_pos c2] at h; cases h
            · rw [if_neg c2] at h
              exact base.trans (ih.fill l _ _ q hg.1 h)
    · cases k with
      | zero => rw [runTimes_none] at h; cases h; exact RunG.refl _
      | succ k =>
        rw [runTimes_succ] at h
        obtain ⟨a, h1, h2⟩ := bind_ok h
        exact (ih.items l r a hg h1).trans (ih.times l k a q hg h2)
    · rw [runFill_succ] at h
      by_cases c : r.rem = k
      · rw [if_pos c] at h; cases h; exact RunG.refl _
      · rw [if_neg c] at h
        obtain ⟨a, h1, h2⟩ := bind_ok h
        by_cases c2 : a.rem < k ∨ a.rem = r.rem
        · rw [if_pos c2] at h2; cases h2
        · rw [if_neg c2] at h2
          exact (ih.items l r a hg h1).trans (ih.fill l k a q hg h2)
    · cases l with
      | nil => rw [runItems_nil] at h; cases h; exact RunG.refl _
      | cons i l =>
        rw [runItems_cons] at h
        obtain ⟨a, h1, h2⟩ := bind_ok h
        exact (ih.item i r a hg.1 h1).trans (ih.items l a q hg.2 h2)
def tot (l : List (Nat × List Nat)) : Nat := (l.map fun r => r.2.length).sum
structure PieceG (x y : Piece) : Prop where
  out : (∀ r ∈ x.rows, ∀ s ∈ r.2, s < 8) → ∀ r ∈ y.rows, ∀ s ∈ r.2, s < 8
  few : tot y.rows + y.left ≤ tot x.rows + x.left
theorem PieceG.refl (r : Piece) : PieceG r r := ⟨id, Nat.le_refl _⟩
theorem PieceG.trans {a b c : Piece} (h : PieceG a b) (g : PieceG b c) : PieceG a c := ⟨fun z => g.out (h.out z), Nat.le_trans g.few h.few⟩
structure PieceGs (v : List Int) (n : Nat) (rows : List (Text × Items)) (f : Nat) : Prop where
  part : ∀ (p : Part) (d : Nat) (x y : Piece), PartOk n rows p d → knitPart v f p x = .ok y → PieceG x y
  times : ∀ (l : Parts) (d k : Nat) (x y : Piece), PartsOk n rows l d → knitTimes v f l k x = .ok y → PieceG x y
  parts : ∀ (l : Parts) (d : Nat) (x y : Piece), PartsOk n rows l d → knitParts v f l x = .ok y → PieceG x y
theorem tot_cons (a : Nat × List Nat) (l : List (Nat × List Nat)) : tot (a :: l) = a.2.length + tot l := by
  unfold tot
  rw [List.map_cons, List.sum_cons]
theorem piece_g (v : List Int) (n : Nat) (rows : List (Text × Items)) (hr : ∀ y ∈ rows, GoodIs n y.2) : ∀ f, PieceGs v n rows f := by
  intro f
  induction f with
  | zero => exact ⟨fun p d x y _ h => (by rw [knitPart_zero] at h; cases h), fun l d k x y _ h => (by rw [knitTimes_zero] at h; cases h), fun l d x y _ h => (by rw [knitParts_zero] at h; cases h)⟩
  | succ f ih =>
    refine ⟨fun p d x y hg h => ?_, fun l d k x y hg h => ?_, fun l d x y hg h => ?_⟩
    · have base : PieceG x { x with left := x.left - 1 } := ⟨id, by show tot x.rows + (x.left - 1) ≤ _; omega⟩
      cases p with
      | row k nm l =>
        rw [knitPart_row] at h
        by_cases c : x.left = 0
        · rw [if_pos c] at h; cases h
        · rw [if_neg c] at h
          have hrow : rows[k]? = some (nm, l) := hg
          have hGl := hr _ (List.mem_of_getElem? hrow)
          cases e : runItems v FUEL l ⟨x.width, [], x.left - 1⟩ with
          | error w => rw [e] at h; cases h
          | ok r =>
            rw [e] at h
            have g := (run_g v n FUEL).items l _ r hGl e
            dsimp only at h
            by_cases c2 : r.rem ≠ 0
            · rw [if_pos c2] at h; cases h
            · rw [if_neg c2] at h
              cases h
              have gf : r.out.length + r.left ≤ 0 + (x.left - 1) := g.few
              refine ⟨fun z a ha => ?_, ?_⟩
              · rcases List.mem_cons.mp ha with e1 | m
                · subst e1
                  intro s hs
                  exact g.out (fun _ h => absurd h (List.not_mem_nil)) s (List.mem_reverse.mp hs)
                · exact z a m
              · show tot ((k, r.out.reverse) :: x.rows) + r.left ≤ _
                rw [tot_cons]
                show r.out.reverse.length + tot x.rows + r.left ≤ _
                rw [List.length_reverse]
                omega
      | again t l =>
        rw [knitPart_again] at h
        obtain ⟨e, _, _, hl⟩ := hg
        by_cases c : x.left = 0
        · rw [if_pos c] at h; cases h
        · rw [if_neg c] at h
          by_cases c1 : value v t < 0
          · rw [if_pos c1] at h; cases h
          · rw [if_neg c1] at h
            by_cases c2 : ((x.left - 1 : Nat) : Int) < value v t
            · rw [if_pos c2] at h; cases h
            · rw [if_neg c2] at h
              exact base.trans (ih.times l e _ _ y hl h)
    · cases k with
      | zero => rw [knitTimes_none] at h; cases h; exact PieceG.refl _
      | succ k =>
        rw [knitTimes_succ] at h
        obtain ⟨a, h1, h2⟩ := bind_ok h
        exact (ih.parts l d x a hg h1).trans (ih.times l d k a y hg h2)
    · cases l with
      | nil => rw [knitParts_nil] at h; cases h; exact PieceG.refl _
      | cons p l =>
        rw [knitParts_cons] at h
        obtain ⟨a, h1, h2⟩ := bind_ok h
        exact (ih.part p d x a hg.1 h1).trans (ih.parts l d a y hg.2 h2)
/-! ### runs of stitches -/
def snocRun (s : Nat) : List (Nat × Nat) → List (Nat × Nat)
  | [] => [(s, 1)]
  | [(t, n)] => if t = s then [(s, n + 1)] else [(t, n), (s, 1)]
  | x :: y :: m => x :: snocRun s (y :: m)
def pushRun (a : Nat) : List (Nat × Nat) → List (Nat × Nat)
  | (t, n) :: l => if a = t then (t, n + 1) :: l else (a, 1) :: (t, n) :: l
  | [] => [(a, 1)]
theorem runsOf_cons (a : Nat) (r : List Nat) : runsOf (a :: r) = pushRun a (runsOf r) := by
  rw [runsOf]
  cases e : runsOf r with
  | nil => rfl
  | cons x l => rfl
theorem push_snoc (a s : Nat) : ∀ L : List (Nat × Nat), pushRun a (snocRun s L) = snocRun s (pushRun a L)
  | [] => by
    show (if a = s then [(s, 1 + 1)] else [(a, 1), (s, 1)]) = (if a = s then [(s, 1 + 1)] else [(a, 1), (s, 1)])
    rfl
  | [(t, n)] => by
    by_cases c1 : t = s
    · subst c1
      by_cases c2 : a = t
      · subst c2; simp [snocRun, pushRun]
      · simp [snocRun, pushRun, c2]
    · by_cases c2 : a = t
      · subst c2; simp [snocRun, pushRun, c1]
      · simp [snocRun, pushRun, c1, c2]
  | (t, n) :: y :: m => by
    by_cases c2 : a = t
    · simp [snocRun, pushRun, c2]
    · simp [snocRun, pushRun, c2]
theorem runs_snoc (s : Nat) : ∀ l : List Nat, runsOf (l ++ [s]) = snocRun s (runsOf l)
  | [] => rfl
  | a :: r => by
    rw [List.cons_append, runsOf_cons, runs_snoc s r, push_snoc, ← runsOf_cons]
theorem snoc_last (s t n : Nat) : ∀ L : List (Nat × Nat), snocRun s (L ++ [(t, n)]) = L ++ (if t = s then [(s, n + 1)] else [(t, n), (s, 1)])
  | [] => rfl
  | [x] => rfl
  | x :: y :: m => by
    have := snoc_last s t n (y :: m)
    show x :: snocRun s ((y :: m) ++ [(t, n)]) = x :: ((y :: m) ++ _)
    rw [this]
theorem snoc_ok {s : Nat} : ∀ {L : List (Nat × Nat)}, s < 8 → (∀ x ∈ L, x.1 < 8 ∧ 1 ≤ x.2) → ∀ x ∈ snocRun s L, x.1 < 8 ∧ 1 ≤ x.2
  | [], hs, _, x, hx => by
    rw [List.mem_singleton.mp hx]; exact ⟨hs, Nat.le_refl _⟩
  | [(t, n)], hs, h, x, hx => by
    have ht := h (t, n) (List.mem_singleton.mpr rfl)
    unfold snocRun at hx
    by_cases c : t = s
    · rw [if_pos c] at hx
      rw [List.mem_singleton.mp hx]; exact ⟨hs, by show 1 ≤ n + 1; omega⟩
    · rw [if_neg c] at hx
      simp only [List.mem_cons, List.not_mem_nil, or_false] at hx
      rcases hx with e | e
      · rw [e]; exact ht
      · rw [e]; exact ⟨hs, Nat.le_refl _⟩
  | a :: b :: m, hs, h, x, hx => by
    unfold snocRun at hx
    rcases List.mem_cons.mp hx with e | hx
    · rw [e]; exact h a List.mem_cons_self
    · exact snoc_ok hs (fun y hy => h y (List.mem_cons_of_mem _ hy)) x hx
theorem push_ok' {s : Nat} {L : List (Nat × Nat)} (hs : s < 8) (h : ∀ x ∈ L, x.1 < 8 ∧ 1 ≤ x.2) : ∀ x ∈ pushRun s L, x.1 < 8 ∧ 1 ≤ x.2 := by
  cases L with
  | nil => intro x hx; rw [List.mem_singleton.mp hx]; exact ⟨hs, Nat.le_refl _⟩
  | cons a l =>
    obtain ⟨t, n⟩ := a
    intro x hx
    change x ∈ (if s = t then (t, n + 1) :: l else (s, 1) :: (t, n) :: l) at hx
    have ht := h (t, n) List.mem_cons_self
    by_cases c : s = t
    · rw [if_pos c] at hx
      rcases List.mem_cons.mp hx with e | m
      · rw [e]; exact ⟨ht.1, by show 1 ≤ n + 1; omega⟩
      · exact h x (List.mem_cons_of_mem _ m)
    · rw [if_neg c] at hx
      rcases List.mem_cons.mp hx with e | m
      · rw [e]; exact ⟨hs, Nat.le_refl _⟩
      · exact h x m
theorem runs_ok : ∀ l : List Nat, (∀ s ∈ l, s < 8) → ∀ x ∈ runsOf l, x.1 < 8 ∧ 1 ≤ x.2
  | [], _, x, hx => by cases hx
  | a :: r, h, x, hx => by
    rw [runsOf_cons] at hx
    exact push_ok' (h a List.mem_cons_self) (runs_ok r fun s hs => h s (List.mem_cons_of_mem _ hs)) x hx
theorem pushR_len (a : Nat) (L : List (Nat × Nat)) : (pushRun a L).length ≤ L.length + 1 ∧ ((pushRun a L).map (·.2)).sum = (L.map (·.2)).sum + 1 := by
  cases L with
  | nil => exact ⟨Nat.le_refl _, rfl⟩
  | cons x l =>
    obtain ⟨t, n⟩ := x
    show (if a = t then (t, n + 1) :: l else (a, 1) :: (t, n) :: l).length ≤ _ ∧ ((if a = t then (t, n + 1) :: l else (a, 1) :: (t, n) :: l).map (·.2)).sum = _
    by_cases c : a = t
    · rw [if_pos c]
      simp only [List.length_cons, List.map_cons, List.sum_cons]
      omega
    · rw [if_neg c]
      simp only [List.length_cons, List.map_cons, List.sum_cons]
      omega
theorem runs_len : ∀ l : List Nat, (runsOf l).length ≤ l.length ∧ ((runsOf l).map (·.2)).sum = l.length
  | [] => ⟨Nat.le_refl _, rfl⟩
  | a :: r => by
    rw [runsOf_cons]
    have h1 := pushR_len a (runsOf r)
    have h2 := runs_len r
    simp only [List.length_cons]
    omega
theorem sum_mem {L : List (Nat × Nat)} {x : Nat × Nat} (h : x ∈ L) : x.2 ≤ (L.map (·.2)).sum := by
  induction L with
  | nil => cases h
  | cons a l ih =>
    rw [List.map_cons, List.sum_cons]
    rcases List.mem_cons.mp h with e | m
    · rw [e]; omega
    · have := ih m; omega
theorem runs_most {l : List Nat} {x : Nat × Nat} (h : x ∈ runsOf l) : x.2 ≤ l.length := by
  have := sum_mem h
  have := (runs_len l).2
  omega
/-! ### words of a row told out -/
def runWords (x : Nat × Nat) : List Text := NAMES.getD x.1 [] :: if 1 < x.2 then [decimal x.2] else []
theorem flat_words : ∀ L : List (Nat × Nat), (∀ x ∈ L, 1 ≤ x.2) → itemsWords [] (itemsOf L) = L.flatMap runWords
  | [], _ => by rw [itemsOf, itemsWords]; rfl
  | (s, n) :: r, h => by
    have h1 := h (s, n) List.mem_cons_self
    rw [itemsOf, itemsWords, itemWords, flat_words r fun x hx => h x (List.mem_cons_of_mem _ hx), List.flatMap_cons]
    congr 1
    unfold runWords timesWords
    congr 1
    dsimp only at h1 ⊢
    by_cases c : 1 < n
    · rw [if_pos c, if_neg (by intro e; have : (n : Int) = 1 := e.1; omega)]
      congr 1
      unfold shownForm constant
      have hc : ((n : Int) != 0) = true := by
        rw [bne_iff_ne]; omega
      dsimp only [List.length_nil]
      simp [signed]
    · rw [if_neg c, if_pos]
      have : n = 1 := by omega
      subst this
      exact ⟨rfl, rfl⟩
end Kn
namespace Kn
open Vbktaa
theorem room_core {ss : List Size} {w : Text} {a' s' : Nat} {g' : Option Nat} {z : Size} (h : (if w.length ≠ 1 ∨ w.all small = false ∨ w = word "k" ∨ w = word "p" ∨ 1000 < a' ∨ s' = 0 ∨ 100 < s' ∨ (g'.any fun x => decide (x < a' ∨ 1000 < x)) = true then (.inl 1 : Nat ⊕ Size) else if (ss.any fun x => x.name == w) = true then .inl 2 else if SIZES ≤ ss.length then .inl 4 else .inr ⟨w, a', s', g'⟩) = .inr z) : ss.length < 2 := by
  split at h
  · cases h
  · split at h
    · cases h
    · split at h
      · cases h
      · rename_i c
        have : ¬ 2 ≤ ss.length := c
        omega
theorem size_room {ss : List Size} {ws : List Text} {z : Size} (h : readSize ss ws = .inr z) : ss.length < 2 := by
  unfold readSize at h
  match ws, h with
  | [_, w, a, s], h =>
    dsimp only at h
    cases ha : natOf 4 a with
    | none => rw [ha] at h; cases h
    | some a' =>
      cases hs : natOf 3 s with
      | none => rw [ha, hs] at h; cases h
      | some s' =>
        rw [ha, hs] at h
        exact room_core h
  | [_, w, a, s, g], h =>
    dsimp only at h
    cases ha : natOf 4 a with
    | none => rw [ha] at h; cases h
    | some a' =>
      cases hs : natOf 3 s with
      | none => rw [ha, hs] at h; cases h
      | some s' =>
        cases hg : natOf 4 g with
        | none => rw [ha, hs, hg] at h; cases h
        | some g' =>
          rw [ha, hs, hg] at h
          exact room_core h
  | _ :: w :: a :: s :: _ :: _ :: _, h =>
    dsimp only at h
    cases ha : natOf 4 a with
    | none => rw [ha] at h; cases h
    | some a' =>
      cases hs : natOf 3 s with
      | none => rw [ha, hs] at h; cases h
      | some s' => rw [ha, hs] at h; cases h
theorem head_two : ∀ (lines : List (List Text)) (n : Nat) (ss : List Size) (q : Pattern), ss.length ≤ 2 → readHead n ss lines = .inr q → q.sizes.length ≤ 2
  | [], n, ss, q, _, h => by
    rw [readHead.eq_def] at h; cases h
  | ws :: rest, n, ss, q, hs, h => by
    rw [readHead.eq_def] at h
    dsimp only at h
    by_cases h1 : ws.head? = some (word "size")
    · rw [if_pos h1] at h
      cases e : readSize ss ws with
      | inl k => rw [e] at h; cases h
      | inr s =>
        rw [e] at h
        have := size_room e
        exact head_two rest (n + 1) (ss ++ [s]) q (by rw [List.length_append, List.length_singleton]; omega) h
    · rw [if_neg h1] at h
      match ws, h with
      | [w, t], h =>
        dsimp only at h
        by_cases h2 : w = word "cast"
        · rw [if_pos h2] at h
          split at h
          · cases h
          · split at h
            · cases h
            · split at h
              · cases h
              · split at h
                · cases h
                  exact hs
                · cases h
        · rw [if_neg h2] at h; cases h
      | [], h => cases h
      | [_], h => cases h
      | _ :: _ :: _ :: _, h => cases h
theorem text_two {t : Text} {q : Pattern} (h : readText t = .inr q) : q.sizes.length ≤ 2 := by
  unfold readText at h
  dsimp only at h
  split at h
  · cases h
  · exact head_two _ 1 [] q (by simp) h
end Kn
namespace Kn
open Vbktaa
/-! ### what goes wrong is told by a number from 1 on -/
structure RunE (v : List Int) (f : Nat) : Prop where
  item : ∀ (i : Item) (r : Run) (e : Nat), runItem v f i r = .error e → 1 ≤ e
  times : ∀ (l : Items) (k : Nat) (r : Run) (e : Nat), runTimes v f l k r = .error e → 1 ≤ e
  fill : ∀ (l : Items) (k : Nat) (r : Run) (e : Nat), runFill v f l k r = .error e → 1 ≤ e
  items : ∀ (l : Items) (r : Run) (e : Nat), runItems v f l r = .error e → 1 ≤ e
theorem err5 {α : Type} {e : Nat} (h : (.error 5 : Except Nat α) = .error e) : 1 ≤ e := by cases h; decide
theorem bind_err {α β ε : Type} {x : Except ε α} {f : α → Except ε β} {e : ε} (h : x.bind f = .error e) : x = .error e ∨ ∃ a, x = .ok a ∧ f a = .error e := by
  cases x with
  | error y => cases h; exact .inl rfl
  | ok a => exact .inr ⟨a, rfl, h⟩
theorem run_e (v : List Int) : ∀ f, RunE v f := by
  intro f
  induction f with
  | zero => exact ⟨fun i r e h => (by rw [runItem_zero] at h; exact err5 h), fun l k r e h => (by rw [runTimes_zero] at h; exact err5 h), fun l k r e h => (by rw [runFill_zero] at h; exact err5 h), fun l r e h => (by rw [runItems_zero] at h; exact err5 h)⟩
  | succ f ih =>
    refine ⟨fun i r e h => ?_, fun l k r e h => ?_, fun l k r e h => ?_, fun l r e h => ?_⟩
    · rw [runItem_succ] at h
      by_cases c : r.left = 0
      · rw [if_pos c] at h; exact err5 h
      · rw [if_neg c] at h
        cases i with
        | st s t =>
          dsimp only at h
          by_cases c1 : value v t < 0
          · rw [if_pos c1] at h; cases h; decide
          · rw [if_neg c1] at h
            by_cases c2 : ((r.left - 1 : Nat) : Int) < value v t
            · rw [if_pos c2] at h; cases h; decide
            · rw [if_neg c2] at h
              by_cases c3 : r.rem < (value v t).toNat * uses s
              · rw [if_pos c3] at h; cases h; decide
              · rw [if_neg c3] at h; cases h
        | group l t =>
          dsimp only at h
          by_cases c1 : value v t < 0
          · rw [if_pos c1] at h; cases h; decide
          · rw [if_neg c1] at h
            by_cases c2 : ((r.left - 1 : Nat) : Int) < value v t
            · rw [if_pos c2] at h; cases h; decide
            · rw [if_neg c2] at h
              exact ih.times l _ _ e h
        | fill l t =>
          dsimp only at h
          by_cases c1 : value v t < 0
          · rw [if_pos c1] at h; cases h; decide
          · rw [if_neg c1] at h
            by_cases c2 : (r.rem : Int) < value v t
            · rw [if_pos c2] at h; cases h; decide
            · rw [if_neg c2] at h
              exact ih.fill l _ _ e h
    · cases k with
      | zero => rw [runTimes_none] at h; cases h
      | succ k =>
        rw [runTimes_succ] at h
        rcases bind_err h with h1 | ⟨a, h1, h2⟩
        · exact ih.items l r e h1
        · exact ih.times l k a e h2
    · rw [runFill_succ] at h
      by_cases c : r.rem = k
      · rw [if_pos c] at h; cases h
      · rw [if_neg c] at h
        rcases bind_err h with h1 | ⟨a, h1, h2⟩
        · exact ih.items l r e h1
        · by_cases c2 : a.rem < k ∨ a.rem = r.rem
          · rw [if_pos c2] at h2; cases h2; decide
          · rw [if_neg c2] at h2
            exact ih.fill l k a e h2
    · cases l with
      | nil => rw [runItems_nil] at h; cases h
      | cons i l =>
        rw [runItems_cons] at h
        rcases bind_err h with h1 | ⟨a, h1, h2⟩
        · exact ih.item i r e h1
        · exact ih.items l a e h2
structure PieceE (v : List Int) (f : Nat) : Prop where
  part : ∀ (p : Part) (x : Piece) (w : Wrong), knitPart v f p x = .error w → 1 ≤ w.why
  times : ∀ (l : Parts) (k : Nat) (x : Piece) (w : Wrong), knitTimes v f l k x = .error w → 1 ≤ w.why
  parts : ∀ (l : Parts) (x : Piece) (w : Wrong), knitParts v f l x = .error w → 1 ≤ w.why
theorem piece_e (v : List Int) : ∀ f, PieceE v f := by
  intro f
  induction f with
  | zero => exact ⟨fun p x w h => (by rw [knitPart_zero] at h; cases h; show 1 ≤ 5; decide), fun l k x w h => (by rw [knitTimes_zero] at h; cases h; show 1 ≤ 5; decide), fun l x w h => (by rw [knitParts_zero] at h; cases h; show 1 ≤ 5; decide)⟩
  | succ f ih =>
    refine ⟨fun p x w h => ?_, fun l k x w h => ?_, fun l x w h => ?_⟩
    · cases p with
      | row k nm l =>
        rw [knitPart_row] at h
        by_cases c : x.left = 0
        · rw [if_pos c] at h; cases h; show 1 ≤ 5; decide
        · rw [if_neg c] at h
          cases e : runItems v FUEL l ⟨x.width, [], x.left - 1⟩ with
          | error y =>
            rw [e] at h
            have := (run_e v FUEL).items l _ y e
            cases h
            exact this
          | ok r =>
            rw [e] at h
            dsimp only at h
            by_cases c2 : r.rem ≠ 0
            · rw [if_pos c2] at h; cases h; show 1 ≤ 4; decide
            · rw [if_neg c2] at h; cases h
      | again t l =>
        rw [knitPart_again] at h
        by_cases c : x.left = 0
        · rw [if_pos c] at h; cases h; show 1 ≤ 5; decide
        · rw [if_neg c] at h
          by_cases c1 : value v t < 0
          · rw [if_pos c1] at h; cases h; show 1 ≤ 1; decide
          · rw [if_neg c1] at h
            by_cases c2 : ((x.left - 1 : Nat) : Int) < value v t
            · rw [if_pos c2] at h; cases h; show 1 ≤ 5; decide
            · rw [if_neg c2] at h
              exact ih.times l _ _ w h
    · cases k with
      | zero => rw [knitTimes_none] at h; cases h
      | succ k =>
        rw [knitTimes_succ] at h
        rcases bind_err h with h1 | ⟨a, h1, h2⟩
        · exact ih.parts l x w h1
        · exact ih.times l k a w h2
    · cases l with
      | nil => rw [knitParts_nil] at h; cases h
      | cons p l =>
        rw [knitParts_cons] at h
        rcases bind_err h with h1 | ⟨a, h1, h2⟩
        · exact ih.part p x w h1
        · exact ih.parts l a w h2
end Kn
namespace Kn
open Vbktaa
/-! ### what a text that was read is, and how many words the pattern shown has -/
theorem text_good {t : Text} {q : Pattern} (hl : t.length ≤ 2400) (h : readText t = .inr q) : ReadG 3000 q (allRows q.parts) := by
  obtain ⟨ini, u, eSp⟩ := splitAt_init 10 t
  unfold readText at h
  rw [eSp] at h
  dsimp only at h
  rw [List.dropLast_concat] at h
  split at h
  · cases h
  · rw [head_run] at h
    cases he : runR 1 ⟨[], none, [], ⟨[], .nil⟩⟩ (ini.map (splitAt 32)) with
    | inl e => rw [he] at h; cases h
    | inr s =>
      rw [he] at h
      obtain ⟨c, r1, r2, r3, r4⟩ := run_ok _ 1 0 _ s (by decide) (fun z hz => absurd hz (List.not_mem_nil)) (Fit.start []) (fun _ => ⟨rfl, rfl⟩) (fun c hc => nomatch hc) he
      have eq : headR (.inr s) = .inr { sizes := s.ss, cast := c, parts := s.o.base } := by
        show Sum.inr _ = Sum.inr _
        rw [r1]; rfl
      rw [eq] at h
      have hlini : ini.length ≤ 2401 := by
        have := splitAt_len 10 t
        rw [eSp, List.length_append, List.length_singleton] at this
        omega
      have ha : allRows s.o.base = s.rows := by
        have := r4.all
        rw [r2] at this
        rw [← this]
        show _ = _ ++ []
        rw [List.append_nil]
      cases h
      show ReadG 3000 _ (allRows s.o.base)
      rw [ha]
      refine ⟨r3, r4.cast, r4.rowg, r4.base, ha, ?_⟩
      have := r4.few
      simp at this
      show nPs s.o.base ≤ 3000
      omega
/-- a word: not empty, of signs that are seen -/
def Wd (w : Text) : Prop := w ≠ [] ∧ ∀ c ∈ w, 33 ≤ c
theorem Wd.no {w : Text} (h : Wd w) {c : Nat} (hc : c < 33) : c ∉ w := fun m => by have := h.2 c m; omega
inductive Lines : Text → Prop where
  | nil : Lines []
  | cons (ws : List Text) (r : Text) (h1 : ws ≠ []) (h2 : ∀ w ∈ ws, Wd w) (h3 : Lines r) : Lines (line ws ++ r)
theorem Lines.app {a b : Text} (h : Lines a) (g : Lines b) : Lines (a ++ b) := by
  induction h with
  | nil => exact g
  | cons ws r h1 h2 _ ih =>
    rw [List.append_assoc]
    exact .cons ws _ h1 h2 ih
theorem Lines.one {ws : List Text} (h1 : ws ≠ []) (h2 : ∀ w ∈ ws, Wd w) : Lines (line ws) := by
  have := Lines.cons ws [] h1 h2 .nil
  rw [List.append_nil] at this
  exact this
theorem splitAt_app {c : Nat} (r : Text) : ∀ (a : Text), c ∉ a → splitAt c (a ++ c :: r) = a :: splitAt c r
  | [], _ => by
    obtain ⟨l, m, e⟩ := List.exists_cons_of_ne_nil (splitAt_ne c r)
    show splitAt c (c :: r) = _
    rw [splitAt_cons e, if_pos rfl, e]
  | x :: a, h => by
    have hx : x ≠ c := fun e => h (by rw [e]; exact List.mem_cons_self)
    have ih := splitAt_app r a (fun m => h (List.mem_cons_of_mem _ m))
    show splitAt c (x :: (a ++ c :: r)) = _
    rw [splitAt_cons ih, if_neg hx]
theorem splitAt_no {c : Nat} : ∀ (a : Text), c ∉ a → splitAt c a = [a]
  | [], _ => rfl
  | x :: a, h => by
    have hx : x ≠ c := fun e => h (by rw [e]; exact List.mem_cons_self)
    have ih := splitAt_no a (fun m => h (List.mem_cons_of_mem _ m))
    rw [splitAt_cons ih, if_neg hx]
theorem split_joined {c : Nat} : ∀ (ws : List Text), ws ≠ [] → (∀ w ∈ ws, c ∉ w) → splitAt c (joined c ws) = ws
  | [], h, _ => absurd rfl h
  | [w], _, h => splitAt_no w (h w (by simp))
  | w :: b :: r, _, h => by
    show splitAt c (w ++ c :: joined c (b :: r)) = _
    rw [splitAt_app _ w (h w (by simp)), split_joined (b :: r) (by simp) (fun x hx => h x (List.mem_cons_of_mem _ hx))]
theorem joined_mem {c x : Nat} : ∀ (ws : List Text), x ∈ joined c ws → x = c ∨ ∃ w ∈ ws, x ∈ w
  | [], h => nomatch h
  | [w], h => .inr ⟨w, by simp, h⟩
  | w :: b :: r, h => by
    have h' : x ∈ w ++ c :: joined c (b :: r) := h
    rcases List.mem_append.mp h' with m | m
    · exact .inr ⟨w, by simp, m⟩
    · rcases List.mem_cons.mp m with m | m
      · exact .inl m
      · rcases joined_mem (b :: r) m with m | ⟨y, hy, m⟩
        · exact .inl m
        · exact .inr ⟨y, List.mem_cons_of_mem _ hy, m⟩
def brk (t : Text) : Nat := (t.filter fun b => b == 32 || b == 10).length
theorem brk_app (a b : Text) : brk (a ++ b) = brk a + brk b := by
  unfold brk
  rw [List.filter_append, List.length_append]
theorem brk_wd {w : Text} (h : Wd w) : brk w = 0 := by
  unfold brk
  rw [List.length_eq_zero_iff, List.filter_eq_nil_iff]
  intro c hc
  have := h.2 c hc
  simp only [Bool.or_eq_true, beq_iff_eq]
  omega
theorem brk_joined : ∀ (ws : List Text), ws ≠ [] → (∀ w ∈ ws, Wd w) → brk (joined 32 ws) + 1 = ws.length
  | [], h, _ => absurd rfl h
  | [w], _, h => by
    show brk w + 1 = 1
    rw [brk_wd (h w (by simp))]
  | w :: b :: r, _, h => by
    have ih := brk_joined (b :: r) (by simp) (fun x hx => h x (List.mem_cons_of_mem _ hx))
    show brk (w ++ ([32] ++ joined 32 (b :: r))) + 1 = _
    rw [brk_app, brk_app, brk_wd (h w (by simp)), show brk [32] = 1 from rfl]
    rw [List.length_cons (a := w)]
    omega
theorem foldl_sumN (l : List Nat) : ∀ k : Nat, l.foldl (fun a b => a + b) k = k + l.sum := by
  induction l with
  | nil => intro k; simp
  | cons a r ih => intro k; rw [List.foldl_cons, ih, List.sum_cons]; omega
theorem line_words {ws : List Text} {r : Text} (h1 : ws ≠ []) (h2 : ∀ w ∈ ws, Wd w) : wordCount (line ws ++ r) = ws.length + wordCount r := by
  unfold wordCount
  have e : line ws ++ r = joined 32 ws ++ 10 :: r := by
    unfold line
    rw [List.append_assoc]; rfl
  have n10 : 10 ∉ joined 32 ws := fun m => by
    rcases joined_mem ws m with m | ⟨w, hw, m⟩
    · cases m
    · exact (h2 w hw).no (by decide) m
  rw [e, splitAt_app _ _ n10, List.map_cons, foldl_sumN, foldl_sumN, List.sum_cons, split_joined ws h1 (fun w hw => (h2 w hw).no (by decide))]
  have e2 : ws.filter (fun w => !w.isEmpty) = ws := List.filter_eq_self.mpr fun w hw => by
    have := (h2 w hw).1
    cases w with
    | nil => exact absurd rfl this
    | cons a b => rfl
  rw [e2]
  omega
theorem Lines.words {t : Text} (h : Lines t) : wordCount t = brk t := by
  induction h with
  | nil => rfl
  | cons ws r h1 h2 _ ih =>
    rw [line_words h1 h2, ih, brk_app]
    have := brk_joined ws h1 h2
    have e : brk (line ws) = ws.length := by
      unfold line
      rw [brk_app, show brk [10] = 1 from rfl]
      exact this
    rw [e]
/-! ### the words of a pattern shown -/
theorem wd_decimal (n : Nat) : Wd (decimal n) := ⟨decimal_ne n, fun c hc => by have := decimal_digit hc; omega⟩
theorem wd_small {n : Nat} (h : small n = true) : Wd [n] := ⟨by simp, fun c hc => by rw [List.mem_singleton.mp hc]; have := small_iff.mp h; omega⟩
theorem wd_name {w : Text} (h : isName w = true) : Wd w := by
  unfold isName at h
  rw [Bool.and_eq_true, decide_eq_true_eq] at h
  obtain ⟨h1, h2⟩ := h
  refine ⟨fun e => by rw [e] at h1; simp at h1, fun c hc => ?_⟩
  have := List.all_eq_true.mp h2 c hc
  rw [Bool.or_eq_true, small_iff, digit_iff] at this
  omega
theorem step_nil {found : Text} {x : Int × Nat} (h : showStep found x = []) : found = [] ∧ x.1 = 0 := by
  unfold showStep at h
  by_cases c : x.1 = 0
  · rw [if_pos c] at h; exact ⟨h, c⟩
  · rw [if_neg c] at h
    have := (List.append_eq_nil_iff.mp (List.append_eq_nil_iff.mp h).2).2
    exact absurd this (manyT_ne x)
theorem fold_nil : ∀ (xs : List (Int × Nat)) (found : Text), xs.foldl showStep found = [] → found = [] ∧ ∀ x ∈ xs, x.1 = 0
  | [], found, h => ⟨h, fun x hx => nomatch hx⟩
  | x :: xs, found, h => by
    obtain ⟨h1, h2⟩ := fold_nil xs (showStep found x) h
    obtain ⟨h3, h4⟩ := step_nil h1
    exact ⟨h3, fun y hy => by
      rcases List.mem_cons.mp hy with e | m
      · rw [e]; exact h4
      · exact h2 y m⟩
theorem signT_seen (n : Int) (b : Bool) : ∀ c ∈ signT n b, 33 ≤ c := fun c hc => by
  unfold signT at hc
  split at hc
  · rw [List.mem_singleton.mp hc]; decide
  · split at hc
    · cases hc
    · rw [List.mem_singleton.mp hc]; decide
theorem signsI_seen (n : Int) : ∀ c ∈ signsI n, 33 ≤ c := fun c hc => by
  rw [signsI_eq, signed_eq] at hc
  rcases List.mem_append.mp hc with m | m
  · exact signT_seen _ _ c m
  · have := decimal_digit m; omega
theorem fold_seen : ∀ (xs : List (Int × Nat)) (found : Text), (∀ c ∈ found, 33 ≤ c) → (∀ x ∈ xs, 33 ≤ x.2) → ∀ c ∈ xs.foldl showStep found, 33 ≤ c
  | [], found, h, _ => h
  | x :: xs, found, h, hx => by
    refine fold_seen xs (showStep found x) (fun c hc => ?_) (fun y hy => hx y (List.mem_cons_of_mem _ hy))
    unfold showStep at hc
    split at hc
    · exact h c hc
    · rcases List.mem_append.mp hc with m | m
      · exact h c m
      · rcases List.mem_append.mp m with m | m
        · exact signT_seen _ _ c m
        · unfold manyT at m
          rcases List.mem_append.mp m with m | m
          · split at m
            · cases m
            · have := decimal_digit m; omega
          · rw [List.mem_singleton.mp m]; exact hx x List.mem_cons_self
theorem zip_fst {l : List Int} {ls : List Nat} (h : l.length = ls.length) {a : Int} (ha : a ∈ l) : ∃ x ∈ l.zip ls, x.1 = a := by
  obtain ⟨i, hi, e⟩ := List.mem_iff_getElem.mp ha
  have hi2 : i < (l.zip ls).length := by rw [List.length_zip, ← h]; omega
  exact ⟨(l.zip ls)[i], List.getElem_mem hi2, by rw [List.getElem_zip]; exact e⟩
theorem wd_form {ls : List Nat} {f : Form} (hL : Letters ls) (hl : f.l.length = ls.length) : Wd (shownForm (lets ls) f) := by
  rw [shownForm_eq ls f hl]
  refine ⟨fun e => ?_, ?_⟩
  · obtain ⟨h1, h2⟩ := fold_nil _ _ e
    unfold headT at h1
    split at h1
    · exact signsI_ne _ h1
    · rename_i c
      refine c (.inr fun a ha => ?_)
      obtain ⟨x, hx, e⟩ := zip_fst hl ha
      rw [← e]; exact h2 x hx
  · refine fold_seen _ _ (fun c hc => ?_) (fun x hx => ?_)
    · unfold headT at hc
      split at hc
      · exact signsI_seen _ c hc
      · cases hc
    · have := small_iff.mp (hL x.2 (List.of_mem_zip hx).2)
      omega
theorem wd_times {ls : List Nat} {f : Form} (hL : Letters ls) (hf : GoodF ls.length f) : ∀ w ∈ timesWords (lets ls) f, Wd w := fun w hw => by
  unfold timesWords at hw
  split at hw
  · cases hw
  · rw [List.mem_singleton.mp hw]; exact wd_form hL hf.1
theorem wd_stitch {s : Nat} (h : s < 8) : Wd (NAMES.getD s []) := by
  have : ∀ s : Nat, s < 8 → NAMES.getD s [] ≠ [] ∧ (NAMES.getD s []).all (fun c => decide (33 ≤ c)) = true := by decide
  obtain ⟨h1, h2⟩ := this s h
  exact ⟨h1, fun c hc => of_decide_eq_true (List.all_eq_true.mp h2 c hc)⟩
theorem wd_by {w : Text} (h : (!w.isEmpty && w.all fun c => decide (33 ≤ c)) = true) : Wd w := by
  rw [Bool.and_eq_true] at h
  refine ⟨fun e => by rw [e] at h; exact absurd h.1 (by decide), fun c hc => of_decide_eq_true (List.all_eq_true.mp h.2 c hc)⟩
mutual
theorem wd_item {ls : List Nat} (hL : Letters ls) : ∀ (i : Item), GoodI ls.length i → ∀ w ∈ itemWords (lets ls) i, Wd w
  | .st s t, h, w, hw => by
    rw [itemWords] at hw
    rcases List.mem_cons.mp hw with e | m
    · rw [e]; exact wd_stitch h.1
    · exact wd_times hL h.2 w m
  | .group l t, h, w, hw => by
    rw [itemWords] at hw
    rcases List.mem_cons.mp hw with e | m
    · rw [e]; exact wd_by (by decide)
    · rcases List.mem_append.mp m with m | m
      · exact wd_items hL l h.1 w m
      · rcases List.mem_cons.mp m with e | m
        · rw [e]; exact wd_by (by decide)
        · exact wd_times hL h.2 w m
  | .fill l t, h, w, hw => by
    rw [itemWords] at hw
    rcases List.mem_cons.mp hw with e | m
    · rw [e]; exact wd_by (by decide)
    · rcases List.mem_append.mp m with m | m
      · exact wd_items hL l h.1 w m
      · simp only [List.mem_cons, List.not_mem_nil, or_false] at m
        rcases m with e | e | e
        · rw [e]; exact wd_by (by decide)
        · rw [e]; exact wd_by (by decide)
        · rw [e]; exact wd_form hL h.2.1
theorem wd_items {ls : List Nat} (hL : Letters ls) : ∀ (l : Items), GoodIs ls.length l → ∀ w ∈ itemsWords (lets ls) l, Wd w
  | .nil, _, w, hw => by rw [itemsWords] at hw; cases hw
  | .cons i r, h, w, hw => by
    rw [itemsWords] at hw
    rcases List.mem_append.mp hw with m | m
    · exact wd_item hL i h.1 w m
    · exact wd_items hL r h.2 w m
end
mutual
theorem lines_part {ls : List Nat} {rows : List (Text × Items)} (hL : Letters ls) (hr : ∀ y ∈ rows, RowG ls.length y) : ∀ (i : Part) (d : Nat), PartOk ls.length rows i d → Lines (partText (lets ls) i)
  | .row k nm l, d, h => by
    have hg := hr _ (List.mem_of_getElem? (show rows[k]? = some (nm, l) from h))
    rw [partText]
    refine .one (by simp) (fun w hw => ?_)
    rcases List.mem_cons.mp hw with e | m
    · rw [e]; exact wd_by (by decide)
    · rcases List.mem_cons.mp m with e | m
      · rw [e]; exact wd_name hg.name
      · exact wd_items hL l hg.good w m
  | .again f l, d, h => by
    obtain ⟨e, _, h1, h2⟩ := h
    rw [partText]
    refine (Lines.one (by simp) (fun w hw => ?_)).app ((lines_parts hL hr l e h2).app (.one (by simp) (fun w hw => ?_)))
    · simp only [List.mem_cons, List.not_mem_nil, or_false] at hw
      rcases hw with e | e
      · rw [e]; exact wd_by (by decide)
      · rw [e]; exact wd_form hL h1.1
    · rw [List.mem_singleton.mp hw]; exact wd_by (by decide)
theorem lines_parts {ls : List Nat} {rows : List (Text × Items)} (hL : Letters ls) (hr : ∀ y ∈ rows, RowG ls.length y) : ∀ (l : Parts) (d : Nat), PartsOk ls.length rows l d → Lines (partsText (lets ls) l)
  | .nil, _, _ => by rw [partsText]; exact .nil
  | .cons p r, d, h => by
    rw [partsText]
    exact (lines_part hL hr p d h.1).app (lines_parts hL hr r d h.2)
end
theorem lines_sizes : ∀ (ss : List Size), SizesG ss → Lines (ss.flatMap fun s => line ([word "size", s.name, decimal s.lo, decimal s.step] ++ s.hi.toList.map decimal))
  | [], _ => .nil
  | s :: r, h => by
    rw [List.flatMap_cons]
    refine (Lines.one (by simp) (fun w hw => ?_)).app (lines_sizes r fun z hz => h z (List.mem_cons_of_mem _ hz))
    obtain ⟨n, en, hn⟩ := (h s List.mem_cons_self).name
    rcases List.mem_append.mp hw with m | m
    · simp only [List.mem_cons, List.not_mem_nil, or_false] at m
      rcases m with e | e | e | e
      · rw [e]; exact wd_by (by decide)
      · rw [e, en]; exact wd_small hn
      · rw [e]; exact wd_decimal _
      · rw [e]; exact wd_decimal _
    · obtain ⟨x, _, e⟩ := List.mem_map.mp m
      rw [← e]; exact wd_decimal _
theorem ReadG.letters {m : Nat} {q : Pattern} {rows : List (Text × Items)} (h : ReadG m q rows) : Letters (q.sizes.map fun s => s.name.headD 0) := fun c hc => by
  obtain ⟨s, hs, e⟩ := List.mem_map.mp hc
  obtain ⟨n, en, hn⟩ := (h.sizes s hs).name
  rw [← e, en]; exact hn
theorem ReadG.lines {m : Nat} {q : Pattern} {rows : List (Text × Items)} (h : ReadG m q rows) : Lines (shown q) := by
  unfold shown
  have eL : Vbktaa.letters q = lets (q.sizes.map fun s => s.name.headD 0) := h.sizes.lets
  have en : (q.sizes.map fun s => s.name.headD 0).length = q.sizes.length := List.length_map _
  rw [eL]
  refine (lines_sizes _ h.sizes).app ((Lines.one (by simp) (fun w hw => ?_)).app ((lines_parts h.letters (by rw [en]; exact h.rowg) q.parts 3 (by rw [en]; exact h.parts)).app (.one (by simp) (fun w hw => ?_))))
  · simp only [List.mem_cons, List.not_mem_nil, or_false] at hw
    rcases hw with e | e
    · rw [e]; exact wd_by (by decide)
    · rw [e]; exact wd_form h.letters (by rw [en]; exact h.cast.1)
  · rw [List.mem_singleton.mp hw]; exact wd_by (by decide)
theorem ReadG.words {m : Nat} {q : Pattern} {rows : List (Text × Items)} (h : ReadG m q rows) : wordCount (shown q) = brk (shown q) := h.lines.words
end Kn
namespace Kn
open PySem PySem.Spec PyProof.Rows L2
/-! ### the text -/
abbrev FnP (K : PySem.W.Frag) (x qual : Str) (st : Stmt) (f : Addr) (fd : FuncData) : Prop := FunD K x qual (defArgs st) (defBody st) (defScope st) [] [] f fd
/-- a def of the top, where its name stands -/
def Def (K : PySem.W.Frag) (mg : Str → Option Value) (x : Str) (st : Stmt) : Prop := ∃ f fd, FnP K x x st f fd ∧ mg x = some (.ref f)
/-- a def that keeps its promise, and may be called by its name -/
structure Cal (P : Program) (w : World) (K : PySem.W.Frag) (mg : Str → Option Value) (base : Heap) (CX : CXT) (k : Nat) (x : Str) (ps : List Str) (sp : Sp) : Prop where
  ex : ∃ f fd, FnOk P w K mg base CX k f fd ps sp ∧ mg x = some (.ref f) ∧ PySem.W.keepIn K (.ref f) = true ∧ Binds K fd ps []
section
variable {P : Program} {w : World} {K : PySem.W.Frag} {mg : Str → Option Value} {base : Heap} {CX : CXT} {x : Str} {st : Stmt} {N ps : List Str} {k : Nat} {sp : Sp}
theorem Cal.mk' (D : Def K mg x st) (S : FnScope N ps (defScope st)) (hb : ∀ (kV doc pm : Value) (an : Option Addr) (cdv ct : Value) (us : List Value), us.length = ps.length → bindArgs (PySem.W.fnOf x x (defArgs st) (defBody st) (defScope st) .none kV doc pm an cdv ct) ⟨us, []⟩ = pure (ps.zip us))
    (len : ∀ vs H Q E, sp vs H Q E → vs.length = ps.length)
    (hbody : ∀ (f : Addr) (cdv : Value) (A : Around) (outer : List Env) (s : Shared) (H : Hp) (vs : List V) (Q : VK) (E : XK), Room k (A.deeper (envOfC x (defScope st) s.heap.objs.size f cdv)) → sp vs H Q E →
      ∃ t, PSs (cxOf CX P w K mg base N x (defScope st) f cdv A outer s H E) (defBody st) t ∧ t { nx := fun _ H' => Q .non H', rt := Q } (start N vs) H) : Cal P w K mg base CX (k + 1) x ps sp := by
  obtain ⟨f, fd, F, hm⟩ := D
  exact ⟨f, fd, FunD.ok F S len fun cdv A outer s H vs Q E hr h => hbody f cdv A outer s H vs Q E hr h, hm, F.kp, F.bindsN hb⟩
theorem Cal.mono {sp' : Sp} (C : Cal P w K mg base CX k x ps sp) (h : ∀ vs H Q E, sp' vs H Q E → sp vs H Q E) : Cal P w K mg base CX k x ps sp' := by
  obtain ⟨f, fd, F, r⟩ := C.ex
  exact ⟨f, fd, ⟨fun vs H Q E z => F.len vs H Q E (h _ _ _ _ z), fun A outer s H args us vs Q E a b c d z => F.run A outer s H args us vs Q E a b c d (h _ _ _ _ z)⟩, r⟩
/-- nothing can be asked -/
theorem Cal.never (D : Def K mg x st) (hb : ∀ (kV doc pm : Value) (an : Option Addr) (cdv ct : Value) (us : List Value), us.length = ps.length → bindArgs (PySem.W.fnOf x x (defArgs st) (defBody st) (defScope st) .none kV doc pm an cdv ct) ⟨us, []⟩ = pure (ps.zip us))
    (no : ∀ vs H Q E, ¬ sp vs H Q E) : Cal P w K mg base CX k x ps sp := by
  obtain ⟨f, fd, F, hm⟩ := D
  exact ⟨f, fd, ⟨fun vs H Q E h => absurd h (no vs H Q E), fun A outer s H args us vs Q E _ _ _ _ h => absurd h (no vs H Q E)⟩, hm, F.kp, F.bindsN hb⟩
end
section
variable {X : Cx} {CX : CXT} {k j : Nat} {x : Str} {ps : List Str} {sp : Sp} {E : XK} {e : Expr} {es : List Expr} {t : TA} {p pos : Pos}
/-- f(e, ..) -/
theorem pe_f (C : Cal X.prog X.w X.K X.mg X.base CX k x ps sp) (hr : Room j X.A) (hx : Passes CX X E) (ha : PA X (e :: es) t) (hk : k ≤ j := by decide) (hg : Gl X x := by rfl)
    (hdb : (x == ("__debug__" : Str)) = false := by decide) (he : starEach (e :: es) X.env = (false, eval e X.env) :: starEach es X.env := by rfl) (hpl : (backTo pos (starEach es X.env)).any (·.1) = false := by rfl) :
    PE X (.Call (.Name x p) (e :: es) [] pos) (tCall sp [] E t) := by
  obtain ⟨f, fd, F, hm, kp, hb⟩ := C.ex
  exact pe_call F (hr.mono hk) hg hm kp hb .nil hx ha hdb he hpl
/-- the same within a try: what is raised is wished for at the caller's slots -/
theorem pe_fS {E : L2.St → XK} (C : Cal X.prog X.w X.K X.mg X.base CX k x ps sp) (hr : Room j X.A) (hx : ∀ σ, PassesAt CX X σ (E σ)) (ha : PA X (e :: es) t) (hk : k ≤ j := by decide) (hg : Gl X x := by rfl)
    (hdb : (x == ("__debug__" : Str)) = false := by decide) (he : starEach (e :: es) X.env = (false, eval e X.env) :: starEach es X.env := by rfl) (hpl : (backTo pos (starEach es X.env)).any (·.1) = false := by rfl) :
    PE X (.Call (.Name x p) (e :: es) [] pos) (tCallSD sp [] E t) := by
  obtain ⟨f, fd, F, hm, kp, hb⟩ := C.ex
  exact pe_callSD F (hr.mono hk) hg hm kp hb .nil hx ha hdb he hpl
/-- a module's whole number -/
theorem pe_gi {i : Int} {pos : Pos} (hm : ∃ t, X.mg x = some (.int i t)) (hg : Gl X x := by rfl) (hd : (x == ("__debug__" : Str)) = false := by decide) : PE X (.Name x pos) (tC (.int i)) := by
  obtain ⟨t, hm⟩ := hm
  exact pe_glob hg hm ⟨t, rfl⟩ hd
theorem pe_gr {a : Addr} {pos : Pos} (hm : X.mg x = some (.ref a)) (hg : Gl X x := by rfl) (hd : (x == ("__debug__" : Str)) = false := by decide) : PE X (.Name x pos) (tC (.ref a)) := pe_glob hg hm rfl hd
end
/-- what a def lets out that may raise, raised by a def that it calls -/
theorem passR {P : Program} {w : World} {K : PySem.W.Frag} {mg : Str → Option Value} {base : Heap} {N : List Str} {qual : Str} {scope : Scope} {f : Addr} {cd : Value} {A : Around} {outer : List Env} {s : Shared} {H : Hp} {E : XK} :
    Passes (L2.CX P w) (cxOf (L2.CX P w) P w K mg base N qual scope f cd A outer s H E) E :=
  passes_call (takes_of rfl rfl rfl rfl) fun _ _ _ _ h => h
/-! ### values -/
/-- a text as values -/
def VT (t : List Nat) : List V := t.map fun (n : Nat) => V.int (n : Int)
theorem VT_len (t : List Nat) : (VT t).length = t.length := List.length_map _
theorem VT_app (s t : List Nat) : VT (s ++ t) = VT s ++ VT t := List.map_append
theorem VT_get {t : List Nat} {i : Nat} {x : V} (h : (VT t)[i]? = some x) : ∃ n : Nat, t[i]? = some n ∧ x = V.int (n : Int) := by
  unfold VT at h
  rw [List.getElem?_map] at h
  cases e : t[i]? with
  | none => rw [e] at h; cases h
  | some n => rw [e] at h; exact ⟨n, rfl, (Option.some.inj h).symm⟩
theorem map_get {α β : Type} {f : α → β} {l : List α} {i : Nat} {x : β} (h : (l.map f)[i]? = some x) : ∃ n, l[i]? = some n ∧ x = f n := by
  rw [List.getElem?_map] at h
  cases e : l[i]? with
  | none => rw [e] at h; cases h
  | some n => rw [e] at h; exact ⟨n, rfl, (Option.some.inj h).symm⟩
theorem take_more {α : Type} {l : List α} {i : Nat} {x : α} (h : l[i]? = some x) : l.take (i + 1) = l.take i ++ [x] := by
  rw [List.take_add_one, h]; rfl
theorem take_all {α : Type} (l : List α) : l.take l.length = l := List.take_length
/-! ### heaps -/
theorem same_put {H H' : Hp} {p : Addr} {o : HO} (s : Same H H') (n : H p = none) : Same H (upd H' p o) := fun b u q => by rw [upd_ne (ne_of_none q n)]; exact s b u q
theorem same_new {H : Hp} {p : Addr} {o : HO} (n : H p = none) : Same H (upd H p o) := same_put (Same.refl H) n
theorem put_at {H : Hp} {p q : Addr} {o u : HO} (n : H p = none) (h : H q = some u) : upd H p o q = some u := by rw [upd_ne (ne_of_none h n)]; exact h
theorem line_pos : 0 ≤ sizeLine := Nat.zero_le _
theorem small {n : Nat} (h : n ≤ 16000000) : n < sizeLine := Nat.lt_of_le_of_lt h (by decide)
theorem small' {n : Nat} (h : n ≤ 16000000) : n ≤ sizeLine := Nat.le_of_lt (small h)
theorem if_true_of {c : Bool} {A B : Prop} (hc : c = true) (h : A) : if c = true then A else B := by rw [if_pos hc]; exact h
theorem if_false_of {c : Bool} {A B : Prop} (hc : c = false) (h : B) : if c = true then A else B := by rw [hc, if_neg Bool.false_ne_true]; exact h
/-- a list of texts: each at an address of its own -/
def TxtL (H : Hp) (as : List Addr) (l : List (List Nat)) : Prop := Paired (fun a t => H a = some (.lst (VT t))) as l
def TxtsAt (H : Hp) (a : Addr) (l : List (List Nat)) : Prop := ∃ as : List Addr, H a = some (.lst (as.map V.ref)) ∧ TxtL H as l
theorem paired_mono {α β : Type} {F G : α → β → Prop} (h : ∀ a b, F a b → G a b) : ∀ {l : List α} {m : List β}, Paired F l m → Paired G l m
  | _, _, .nil => .nil
  | _, _, .cons r t => .cons (h _ _ r) (paired_mono h t)
theorem TxtL.mono {H H' : Hp} (s : Same H H') {as : List Addr} {l : List (List Nat)} (h : TxtL H as l) : TxtL H' as l := paired_mono (fun _ _ r => s _ _ r) h
theorem TxtsAt.mono {H H' : Hp} (s : Same H H') {a : Addr} {l : List (List Nat)} (h : TxtsAt H a l) : TxtsAt H' a l := by
  obtain ⟨as, h1, h2⟩ := h
  exact ⟨as, s _ _ h1, h2.mono s⟩
/-! ### what has come new -/
def Off (H H' : Hp) : Hp := fun b => match H b with
  | none => H' b
  | some _ => none
theorem off_free {H H' : Hp} {b : Addr} (h : H b = none) : Off H H' b = H' b := by unfold Off; rw [h]
theorem off_some {H H' : Hp} {b : Addr} {o : HO} (h : Off H H' b = some o) : H b = none ∧ H' b = some o := by
  unfold Off at h
  cases e : H b with
  | none => rw [e] at h; exact ⟨rfl, h⟩
  | some u => rw [e] at h; cases h
theorem off_same {H H' : Hp} : Same (Off H H') H' := fun _ _ h => (off_some h).2
theorem off_up {H H1 H2 : Hp} (s : Same H1 H2) : Same (Off H H1) (Off H H2) := fun b o h => by
  obtain ⟨h1, h2⟩ := off_some h
  rw [off_free h1]; exact s _ _ h2
theorem off_down {H H1 H2 : Hp} (s : Same H H1) : Same (Off H1 H2) (Off H H2) := fun b o h => by
  obtain ⟨h1, h2⟩ := off_some h
  rw [off_free (s.free h1)]; exact h2
theorem off_at {H H' : Hp} {b : Addr} {o : HO} (h : H b = none) (h' : H' b = some o) : Off H H' b = some o := by rw [off_free h]; exact h'
end Kn
namespace Kn
open PySem PySem.Spec PyProof.Rows L2
/-- what is known of an own exception class over Exception with an __init__ of its own -/
structure ExcC (K : PySem.W.Frag) (C fI : Addr) : Prop where
  init : PySem.W.excInitIn K C [.type "Exception", .type "BaseException", .type "object"] "Exception.__new__" = true
  iC : PySem.W.findIn K (.ref C) "__init__" = some (some (.ref fI))
  tI : PySem.W.typeIn K (.ref fI) = some (.type "function")
  sa : PySem.W.findIn K (.ref C) "__setattr__" = some (some (.builtin "object.__setattr__"))
  exC : PySem.W.subIn K (.ref C) (.type "BaseException") = some true
  tyC : PySem.W.typeIn K (.ref C) = some (.type "type")
  over : PySem.W.excOver K C [.type "Exception", .type "BaseException", .type "object"] = true
  kp : PySem.W.keepIn K (.ref C) = true
abbrev s_signs_of : Stmt := top 7
abbrev s_is_digit : Stmt := top 8
abbrev s_is_letter : Stmt := top 9
abbrev s_parted : Stmt := top 10
abbrev s_number_of : Stmt := top 11
abbrev s_term_of : Stmt := top 12
abbrev s_terms_in : Stmt := top 13
abbrev s_form_of : Stmt := top 14
abbrev s_value_of : Stmt := top 15
abbrev s_signed : Stmt := top 16
abbrev s_form_shown : Stmt := top 17
abbrev s_is_one : Stmt := top 18
abbrev s_form_in : Stmt := top 36
abbrev s_stitch_of : Stmt := top 37
abbrev s_times_at : Stmt := top 38
abbrev s_item_at : Stmt := top 39
abbrev s_items_at : Stmt := top 40
abbrev s_row_items : Stmt := top 41
abbrev s_number_between : Stmt := top 42
abbrev s_read_size : Stmt := top 43
abbrev s_read_cast : Stmt := top 44
abbrev s_is_name : Stmt := top 45
abbrev s_read_row : Stmt := top 46
abbrev s_begin_block : Stmt := top 47
abbrev s_end_block : Stmt := top 48
abbrev s_read_off : Stmt := top 49
abbrev s_read_part : Stmt := top 50
abbrev s_read_line : Stmt := top 51
abbrev s_line_read : Stmt := top 52
abbrev s_read_lines : Stmt := top 53
abbrev s_read_pattern : Stmt := top 54
abbrev s_is_size : Stmt := top 55
abbrev s_begin : Stmt := top 63
abbrev s_times_of : Stmt := top 64
abbrev s_knit_stitch : Stmt := top 65
abbrev s_knit_fill : Stmt := top 66
abbrev s_knit_items : Stmt := top 67
abbrev s_knit_row : Stmt := top 68
abbrev s_knit_parts : Stmt := top 69
abbrev s_knit_all : Stmt := top 70
abbrev s_knit : Stmt := top 71
abbrev s_joined : Stmt := top 73
abbrev s_line_of : Stmt := top 74
abbrev s_times_shown : Stmt := top 75
abbrev s_item_words : Stmt := top 76
abbrev s_row_line : Stmt := top 77
abbrev s_letter_line : Stmt := top 78
abbrev s_parts_shown : Stmt := top 79
abbrev s_pattern_shown : Stmt := top 80
abbrev s_count_words : Stmt := top 81
abbrev s_runs_of : Stmt := top 82
abbrev s_flat_row : Stmt := top 83
abbrev s_flat : Stmt := top 84
abbrev s_calls_of : Stmt := top 90
abbrev s_letters_in : Stmt := top 91
abbrev s_is_own_size : Stmt := top 92
abbrev s_put : Stmt := top 93
abbrev s_all_stitches : Stmt := top 94
abbrev s_row_told : Stmt := top 95
abbrev s_told_of : Stmt := top 96
abbrev s_of_size : Stmt := top 97
abbrev s_form_told : Stmt := top 98
abbrev s_value_told : Stmt := top 99
abbrev s_found : Stmt := top 100
abbrev s_tried : Stmt := top 101
abbrev s_sizes_told : Stmt := top 102
abbrev s_of_pattern : Stmt := top 103
abbrev s_done : Stmt := top 104
abbrev s_answers : Stmt := top 105
abbrev s_Wrong_init : Stmt := inClass (top 34) 0
abbrev s_Pattern_init : Stmt := inClass (top 35) 0
abbrev s_Pattern_signs : Stmt := inClass (top 35) 1
abbrev s_Gone_init : Stmt := inClass (top 61) 0
abbrev s_Work_init : Stmt := inClass (top 62) 0
/-- what the top has left -/
structure Txt (K : PySem.W.Frag) (mg : Str → Option Value) : Prop where
  i_BLANK : ∃ t, mg "BLANK" = some (.int (32) t)
  i_PLUS : ∃ t, mg "PLUS" = some (.int (43) t)
  i_MINUS : ∃ t, mg "MINUS" = some (.int (45) t)
  i_MOST_DIGITS : ∃ t, mg "MOST_DIGITS" = some (.int (4) t)
  i_MOST_TERMS : ∃ t, mg "MOST_TERMS" = some (.int (6) t)
  i_MOST_NUMBER : ∃ t, mg "MOST_NUMBER" = some (.int (9999) t)
  i_LINE_END : ∃ t, mg "LINE_END" = some (.int (10) t)
  i_STITCH : ∃ t, mg "STITCH" = some (.int (0) t)
  i_ROUND : ∃ t, mg "ROUND" = some (.int (1) t)
  i_FILL : ∃ t, mg "FILL" = some (.int (2) t)
  i_BLOCK : ∃ t, mg "BLOCK" = some (.int (-1) t)
  i_MOST_LETTERS : ∃ t, mg "MOST_LETTERS" = some (.int (2) t)
  i_MOST_LEAST : ∃ t, mg "MOST_LEAST" = some (.int (1000) t)
  i_MOST_STEP : ∃ t, mg "MOST_STEP" = some (.int (100) t)
  i_MOST_ROWS : ∃ t, mg "MOST_ROWS" = some (.int (20) t)
  i_MOST_WORDS : ∃ t, mg "MOST_WORDS" = some (.int (40) t)
  i_MOST_NAME : ∃ t, mg "MOST_NAME" = some (.int (8) t)
  i_MOST_DEEP : ∃ t, mg "MOST_DEEP" = some (.int (3) t)
  i_MOST_STEPS : ∃ t, mg "MOST_STEPS" = some (.int (1500) t)
  i_NO_ROW : ∃ t, mg "NO_ROW" = some (.int (-1) t)
  i_MOST_FLAT : ∃ t, mg "MOST_FLAT" = some (.int (20) t)
  g_STITCHES : mg "STITCHES" = some (.ref (He.ga K "STITCHES"))
  t_STITCHES : ∀ H, SqT K H (He.ga K "STITCHES") [.str "k", .str "p", .str "yo", .str "kt", .str "sk", .str "pt", .str "kf", .str "sl"]
  g_BARRED : mg "BARRED" = some (.ref (He.ga K "BARRED"))
  t_BARRED : ∀ H, SqT K H (He.ga K "BARRED") [.int (107), .int (112)]
  g_USED : mg "USED" = some (.ref (He.ga K "USED"))
  t_USED : ∀ H, SqT K H (He.ga K "USED") [.int (1), .int (1), .int (0), .int (2), .int (2), .int (2), .int (1), .int (1)]
  g_MADE : mg "MADE" = some (.ref (He.ga K "MADE"))
  t_MADE : ∀ H, SqT K H (He.ga K "MADE") [.int (1), .int (1), .int (1), .int (1), .int (1), .int (1), .int (2), .int (1)]
  g_NUMBERS : mg "NUMBERS" = some (.ref (He.ga K "NUMBERS"))
  t_NUMBERS : ∀ H, SqT K H (He.ga K "NUMBERS") [.int (0), .int (0), .int (0), .int (1), .int (0), .int (0), .int (0), .int (0), .int (0), .int (0), .int (0), .int (0), .int (0), .int (0)]
  g_LISTS : mg "LISTS" = some (.ref (He.ga K "LISTS"))
  t_LISTS : ∀ H, SqT K H (He.ga K "LISTS") [.int (1), .int (0), .int (1), .int (1), .int (1), .int (1), .int (1), .int (1), .int (2), .int (1), .int (0), .int (1), .int (2), .int (0)]
  g_KNIT : mg "KNIT" = some (.ref (He.ga K "KNIT"))
  t_KNIT : ∀ H, SqT K H (He.ga K "KNIT") [.int (2), .int (3), .int (4), .int (5), .int (6), .int (11)]
  f_ord : mg "ord" = none
  f_len : mg "len" = none
  f_all : mg "all" = none
  f_any : mg "any" = none
  f_max : mg "max" = none
  f_min : mg "min" = none
  f_abs : mg "abs" = none
  f_str : mg "str" = none
  f_list : mg "list" = none
  f_range : mg "range" = none
  f_zip : mg "zip" = none
  f_enumerate : mg "enumerate" = none
  cPattern : Cls K (He.ga K "Pattern")
  kPattern : Mk K (He.ga K "Pattern") (He.ma K (He.ga K "Pattern") "__init__")
  gPattern : mg "Pattern" = some (.ref (He.ga K "Pattern"))
  nPattern_letters : NoAttr K (He.ga K "Pattern") "letters"
  nPattern_cast : NoAttr K (He.ga K "Pattern") "cast"
  nPattern_rows : NoAttr K (He.ga K "Pattern") "rows"
  nPattern_parts : NoAttr K (He.ga K "Pattern") "parts"
  cWork : Cls K (He.ga K "Work")
  kWork : Mk K (He.ga K "Work") (He.ma K (He.ga K "Work") "__init__")
  gWork : mg "Work" = some (.ref (He.ga K "Work"))
  nWork_size : NoAttr K (He.ga K "Work") "size"
  nWork_steps : NoAttr K (He.ga K "Work") "steps"
  nWork_row : NoAttr K (He.ga K "Work") "row"
  nWork_left : NoAttr K (He.ga K "Work") "left"
  nWork_fresh : NoAttr K (He.ga K "Work") "fresh"
  nWork_stitches : NoAttr K (He.ga K "Work") "stitches"
  nWork_done : NoAttr K (He.ga K "Work") "done"
  nWork_widths : NoAttr K (He.ga K "Work") "widths"
  mt_signs : Meth K (He.ga K "Pattern") "signs" (He.ma K (He.ga K "Pattern") "signs")
  gWrong : mg "Wrong" = some (.ref (He.ga K "Wrong"))
  xWrong : ExcC K (He.ga K "Wrong") (He.ma K (He.ga K "Wrong") "__init__")
  xfWrong : XfC K (He.ga K "Wrong")
  eWrong : PySem.W.exmOne K (.ref (He.ga K "Wrong")) (.ref (He.ga K "Wrong")) = some true
  nWrong_line : PySem.W.findIn K (.ref (He.ga K "Wrong")) "line" = some none
  nWrong_why : PySem.W.findIn K (.ref (He.ga K "Wrong")) "why" = some none
  gGone : mg "Gone" = some (.ref (He.ga K "Gone"))
  xGone : ExcC K (He.ga K "Gone") (He.ma K (He.ga K "Gone") "__init__")
  xfGone : XfC K (He.ga K "Gone")
  eGone : PySem.W.exmOne K (.ref (He.ga K "Gone")) (.ref (He.ga K "Gone")) = some true
  nGone_why : PySem.W.findIn K (.ref (He.ga K "Gone")) "why" = some none
end Kn
namespace Kn
open PySem PySem.Spec PyProof.Rows L2
/-- a new list of these is handed back, all else as it was -/
def New (H : Hp) (xs : List V) (Q : VK) : Prop := ∀ (H' : Hp) (p : Addr), Same H H' → H p = none → H' p = some (.lst xs) → Q (.ref p) H'
theorem txtl_snoc {H : Hp} {b : Addr} {u : List Nat} (hb : H b = some (.lst (VT u))) : ∀ {as : List Addr} {ls : List (List Nat)}, TxtL H as ls → TxtL H (as ++ [b]) (ls ++ [u])
  | _, _, .nil => .cons hb .nil
  | _, _, .cons r t => .cons r (txtl_snoc hb t)
theorem txtl_keep {H H' : Hp} : ∀ {as : List Addr} {ls : List (List Nat)}, TxtL H as ls → (∀ y o, y ∈ as → H y = some o → H' y = some o) → TxtL H' as ls
  | _, _, .nil, _ => .nil
  | _, _, .cons r t, h => .cons (h _ _ List.mem_cons_self r) (txtl_keep t fun y o hy e => h y o (List.mem_cons_of_mem _ hy) e)
theorem txtl_some {H : Hp} {y : Addr} : ∀ {as : List Addr} {ls : List (List Nat)}, TxtL H as ls → y ∈ as → ∃ o, H y = some o
  | _, _, .nil, h => by cases h
  | _, _, .cons r t, h => by
    rcases List.mem_cons.mp h with e | h
    · exact ⟨_, e ▸ r⟩
    · exact txtl_some t h
section
variable {P : Program} {w : World} {K : PySem.W.Frag} {mg : Str → Option Value} {base : Heap}
/-! ### signs_of -/
def spSigns : Sp := fun vs H Q _ => ∃ z : Str, vs = [.str z] ∧ z.cps.size ≤ 1000 ∧ New H (VT z.cps.toList) Q
theorem sc_signs_of : FnScope ["word", "sign"] ["word"] (defScope s_signs_of) := ⟨rfl, rfl, rfl, by decide +kernel, rfl, by decide +kernel, by decide +kernel⟩
theorem ok_signs_of (T : Txt K mg) (D : Def K mg "signs_of" s_signs_of) : Cal P w K mg base CX0 1 "signs_of" ["word"] spSigns := by
  have sc := sc_signs_of
  refine Cal.mk' D sc (fun _ _ _ _ _ _ us hl => match us, hl with | [_], _ => rfl) (fun vs H Q E h => ?_) (fun f cdv A outer s H vs Q E hr h => ?_)
  · obtain ⟨z, rfl, _⟩ := h; rfl
  obtain ⟨z, rfl, hz, k⟩ := h
  refine ⟨_, PSs.nox (pss_one (ps_ret (pe_lc (own := [("sign", 1)]) (g := gName 1) rfl sc.nd (pi_str (pv 0)) (blkOk_by (N := ["word", "sign"]) (sc := defScope s_signs_of) (by decide +kernel)) (fun _ _ _ _ _ => (pg_name (i := 1) sc.nd rfl (Or.inl rfl))) (fun _ _ _ _ _ => pts_nil) (fun _ _ _ _ _ => (pe_callB call_ord (by rfl) T.f_ord (by decide +kernel) (pa_cons (pv 1) pa_nil)))))), ?_⟩
  refine ⟨_, rfl, z, rfl, fun D hD => lc_it walk_str (fun i H' => Same H H' ∧ H' D = some (.lst (VT (z.cps.toList.take i)))) ⟨same_new hD, upd_same⟩ (fun _ _ _ _ => trivial) ?_ ?_⟩
  · rintro i x H1 H2 hi ⟨s1, hd⟩ ⟨rfl, c, hc, rfl⟩
    refine ⟨rfl, ?_⟩
    refine ⟨_, rfl, ⟨#[c]⟩, rfl, rfl, _, hd, small ?_, ?_⟩
    · rw [VT_len, List.length_take, Array.length_toList]; omega
    · refine ⟨same_put s1 hD, ?_⟩
      have e : z.cps.toList[i]? = some c := by rw [Array.getElem?_toList]; exact hc
      rw [upd_same, take_more e, VT_app]; rfl
  · rintro H1 ⟨s1, hd⟩
    refine k _ _ s1 hD ?_
    rw [hd, show z.cps.size = z.cps.toList.length from (Array.length_toList).symm, take_all]
/-! ### is_digit, is_letter -/
def spByte (f : Nat → Bool) : Sp := fun vs H Q _ => ∃ n : Nat, vs = [.int (n : Int)] ∧ Q (.bl (f n)) H
theorem chain_bl {A B : Bool} {Q : Bool → Prop} (h : Q (A && B)) : if A = true then Q B else Q false := by
  cases A with
  | true => exact h
  | false => exact h
theorem sc_is_digit : FnScope ["byte"] ["byte"] (defScope s_is_digit) := ⟨rfl, rfl, rfl, by decide +kernel, rfl, by decide +kernel, by decide +kernel⟩
theorem sc_is_letter : FnScope ["byte"] ["byte"] (defScope s_is_letter) := ⟨rfl, rfl, rfl, by decide +kernel, rfl, by decide +kernel, by decide +kernel⟩
theorem ok_is_digit (T : Txt K mg) (D : Def K mg "is_digit" s_is_digit) : Cal P w K mg base CX0 1 "is_digit" ["byte"] (spByte Vbktaa.digit) := by
  have sc := sc_is_digit
  refine Cal.mk' D sc (fun _ _ _ _ _ _ us hl => match us, hl with | [_], _ => rfl) (fun vs H Q E h => ?_) (fun f cdv A outer s H vs Q E hr h => ?_)
  · obtain ⟨z, rfl, _⟩ := h; rfl
  obtain ⟨n, rfl, k⟩ := h
  refine ⟨_, PSs.nox (pss_one (ps_ret (pe_chain op_le op_le pe_int (pv 0) pe_int))), ?_⟩
  refine ⟨_, rfl, _, _, rfl, rfl, _, rfl, ?_⟩
  have e : Vbktaa.digit n = (decide ((48 : Int) ≤ (n : Int)) && decide ((n : Int) ≤ 57)) := by
    unfold Vbktaa.digit
    congr 1 <;> exact decide_eq_decide.mpr (by omega)
  rw [e] at k
  by_cases c : (48 : Int) ≤ (n : Int)
  · refine if_true_of (decide_eq_true c) ⟨_, _, rfl, rfl, ?_⟩
    rw [decide_eq_true c, Bool.true_and] at k
    exact k
  · refine if_false_of (decide_eq_false c) ?_
    rw [decide_eq_false c, Bool.false_and] at k
    exact k
theorem ok_is_letter (T : Txt K mg) (D : Def K mg "is_letter" s_is_letter) : Cal P w K mg base CX0 1 "is_letter" ["byte"] (spByte Vbktaa.small) := by
  have sc := sc_is_letter
  refine Cal.mk' D sc (fun _ _ _ _ _ _ us hl => match us, hl with | [_], _ => rfl) (fun vs H Q E h => ?_) (fun f cdv A outer s H vs Q E hr h => ?_)
  · obtain ⟨z, rfl, _⟩ := h; rfl
  obtain ⟨n, rfl, k⟩ := h
  refine ⟨_, PSs.nox (pss_one (ps_ret (pe_chain op_le op_le pe_int (pv 0) pe_int))), ?_⟩
  refine ⟨_, rfl, _, _, rfl, rfl, _, rfl, ?_⟩
  have e : Vbktaa.small n = (decide ((97 : Int) ≤ (n : Int)) && decide ((n : Int) ≤ 122)) := by
    unfold Vbktaa.small
    congr 1 <;> exact decide_eq_decide.mpr (by omega)
  rw [e] at k
  by_cases c : (97 : Int) ≤ (n : Int)
  · refine if_true_of (decide_eq_true c) ⟨_, _, rfl, rfl, ?_⟩
    rw [decide_eq_true c, Bool.true_and] at k
    exact k
  · refine if_false_of (decide_eq_false c) ?_
    rw [decide_eq_false c, Bool.false_and] at k
    exact k
/-! ### parted -/
def spParted (K : PySem.W.Frag) : Sp := fun vs H Q _ => ∃ (a : Addr) (t : List Nat) (c : Nat), vs = [.ref a, .int (c : Int)] ∧ SqL K H a (VT t) ∧ t.length ≤ 3000 ∧
  ∀ (H' : Hp) (p : Addr), Same H H' → H p = none → TxtsAt (Off H H') p (Vbktaa.splitAt c t) → Q (.ref p) H'
theorem sc_parted : FnScope ["row", "by", "found", "byte"] ["row", "by"] (defScope s_parted) := ⟨rfl, rfl, rfl, by decide +kernel, rfl, by decide +kernel, by decide +kernel⟩
theorem ok_parted (T : Txt K mg) (D : Def K mg "parted" s_parted) : Cal P w K mg base CX0 1 "parted" ["row", "by"] (spParted K) := by
  have sc := sc_parted
  refine Cal.mk' D sc (fun _ _ _ _ _ _ us hl => match us, hl with | [_, _], _ => rfl) (fun vs H Q E h => ?_) (fun f cdv A outer s H vs Q E hr h => ?_)
  · obtain ⟨_, _, _, rfl, _⟩ := h; rfl
  obtain ⟨a, t, c, rfl, hS, hl, k⟩ := h
  refine ⟨_, PSs.nox (pss_cons (ps_set (i := 2) sc.nd rfl (Or.inl rfl) (pe_lst (pa_cons (pe_lst pa_nil) pa_nil)))
    (pss_cons (ps_for PassesOwn.never rfl (pi_list (pv 0)) (pg_name (i := 3) sc.nd rfl (Or.inl rfl)) (pss_one (ps_if (pt_cmpR op_eq (pv 3) (pv 1) (nomark _)) (pss_one (ps_expr (pe_bm PySem.F.plainAttrs_list PySem.F.slot_list_append PySem.F.type_list_append mt_append (pv 2) (pa_cons (pe_lst pa_nil) pa_nil)))) (pss_one (ps_expr (pe_bm PySem.F.plainAttrs_list PySem.F.slot_list_append PySem.F.type_list_append mt_append (pe_ix ix_list (pv 2) (pe_un un_neg pe_int) (fun _ _ => rfl)) (pa_cons (pv 3) pa_nil)))))))
    (pss_one (ps_ret (pv 2))))), ?_⟩
  refine ⟨small' (by decide), fun q hq => ⟨small' (by show 1 ≤ 16000000; decide), fun p hp => ?_⟩⟩
  have hpq : p ≠ q := fun e => by rw [e, upd_same] at hp; cases hp
  have hpn : H p = none := by rw [upd_ne hpq] at hp; exact hp
  refine ⟨_, rfl, a, rfl, ⟨_, (same_put (same_new hq) hpn).seq hS⟩, for_it walk_list (fun i σ H' => ∃ (v : Option V) (as : List Addr) (b : Addr) (ls : List (List Nat)) (u : List Nat), σ = [some (.ref a), some (.int (c : Int)), some (.ref p), v] ∧ Same H H' ∧
      Vbktaa.splitAt c (t.take i) = ls ++ [u] ∧ H' p = some (.lst ((as ++ [b]).map V.ref)) ∧ TxtL H' as ls ∧ H' b = some (.lst (VT u)) ∧ b ∉ as ∧ H b = none ∧ b ≠ p ∧ p ∉ as ∧ ls.length ≤ i ∧ ∀ y ∈ as, H y = none)
    ⟨none, [], q, [], [], rfl, same_put (same_new hq) hpn, rfl, upd_same, .nil, ?_, by simp, hq, Ne.symm hpq, by simp, Nat.zero_le _, by simp⟩ (fun i σ H' _ ⟨_, _, _, _, _, _, s1, _⟩ => s1.seq hS) ?_ ?_⟩
  · rw [upd_ne (Ne.symm hpq)]; exact upd_same
  · rintro i x σ H1 H2 hi ⟨v, as, b, ls, u, rfl, s1, e1, h1, h2, h3, nb, hb, hbp, npa, hls, hnn⟩ ⟨rfl, hx⟩
    obtain ⟨n, hn, rfl⟩ := VT_get hx
    have hi' : i < t.length := by rw [VT_len] at hi; exact hi
    have e2 := splitAt_snoc (c := c) (x := n) _ _ _ e1
    rw [← take_more hn] at e2
    have hlen : as.length = ls.length := h2.length
    refine ⟨_, rfl, _, rfl, rfl, _, rfl, ?_⟩
    by_cases hnc : n = c
    · refine if_true_of (decide_eq_true (by rw [hnc])) ?_
      rw [if_pos hnc] at e2
      refine ⟨_, rfl, .inl ⟨rfl, _, SqL.of h1⟩, small' (by decide), fun r hr1 => ⟨p, _, _, rfl, rfl, put_at hr1 h1, ?_, ?_⟩⟩
      · rw [List.length_map, List.length_append, List.length_singleton]; exact small (by omega)
      · have hrp : r ≠ p := fun e => by rw [e, h1] at hr1; cases hr1
        have hrb : r ≠ b := fun e => by rw [e, h3] at hr1; cases hr1
        refine ⟨some (.int (n : Int)), as ++ [b], r, ls ++ [u], [], rfl, same_put (same_put s1 (s1.free hr1)) hpn, e2, ?_, ?_, ?_, ?_, s1.free hr1, hrp, ?_, ?_, ?_⟩
        · rw [upd_same, List.map_append (l₁ := as ++ [b])]; rfl
        · have hL : TxtL H2 (as ++ [b]) (ls ++ [u]) := txtl_snoc h3 h2
          refine txtl_keep hL fun y o hy e => ?_
          have y1 : y ≠ p := fun z => by
            rw [z] at hy
            rcases List.mem_append.mp hy with m | m
            · exact npa m
            · exact hbp (List.mem_singleton.mp m).symm
          rw [upd_ne y1]
          exact put_at hr1 e
        · rw [upd_ne hrp]; exact upd_same
        · intro m
          rcases List.mem_append.mp m with m | m
          · obtain ⟨o, ho⟩ := txtl_some h2 m
            rw [hr1] at ho; cases ho
          · exact hrb (List.mem_singleton.mp m)
        · intro m
          rcases List.mem_append.mp m with m | m
          · exact npa m
          · exact hbp (List.mem_singleton.mp m).symm
        · rw [List.length_append, List.length_singleton]; omega
        · intro y hy
          rcases List.mem_append.mp hy with m | m
          · exact hnn y m
          · rw [List.mem_singleton.mp m]; exact hb
    · refine if_false_of (decide_eq_false (fun e => hnc (by have := V.int.inj e; omega))) ?_
      rw [if_neg hnc] at e2
      have hu : u.length ≤ t.length := by
        have : u ∈ Vbktaa.splitAt c (t.take i) := by rw [e1]; simp
        have := splitAt_mem_len this
        rw [List.length_take] at this
        omega
      refine ⟨_, rfl, _, rfl, p, _, _, .ref b, rfl, rfl, SqL.of h1, ?_, .inl ⟨rfl, _, SqL.of h3⟩, _, rfl, b, _, _, rfl, rfl, h3, ?_, ?_⟩
      · show atI _ (-1) = _
        rw [List.map_append]
        exact atI_last _ _
      · rw [VT_len]; exact small (by omega)
      · refine ⟨some (.int (n : Int)), as, b, ls, u ++ [n], rfl, same_put s1 hb, e2, ?_, ?_, ?_, nb, hb, hbp, npa, by omega, hnn⟩
        · rw [upd_ne (Ne.symm hbp)]; exact h1
        · exact txtl_keep h2 fun y o hy e => by rw [upd_ne (fun z => nb (by rw [← z]; exact hy))]; exact e
        · rw [upd_same, VT_app]; rfl
  · rintro σ H1 ⟨v, as, b, ls, u, rfl, s1, e1, h1, h2, h3, nb, hb, hbp, npa, hls, hnn⟩
    rw [VT_len, take_all] at e1
    refine ⟨_, rfl, k _ _ s1 hpn ⟨as ++ [b], off_at hpn h1, ?_⟩⟩
    rw [e1]
    refine txtl_keep (txtl_snoc h3 h2) fun y o hy e => off_at ?_ e
    rcases List.mem_append.mp hy with m | m
    · exact hnn y m
    · rw [List.mem_singleton.mp m]; exact hb
end
end Kn
namespace Kn
open PySem PySem.Spec PyProof.Rows L2
/-! ### lists of whole numbers as data -/
def dI (l : List Int) : PyData := .list (l.map PyData.int)
theorem dI_lay : ∀ l : List Int, PyData.canLayAll0 (l.map PyData.int) = true
  | [] => by simp [PyData.canLayAll0]
  | z :: zs => by simp [PyData.canLayAll0, PyData.canLay0, dI_lay zs]
theorem dI_depth : ∀ l : List Int, PyData.depthAll (l.map PyData.int) ≤ 1
  | [] => by simp [PyData.depthAll]
  | z :: zs => by
    have h1 := dI_depth zs
    simp only [List.map_cons, PyData.depthAll, PyData.depth]
    omega
theorem dI_shaped (l : List Int) : SeqAt.shaped (dI l) = true := by
  have h1 := dI_depth l
  have h2 : PyData.depth (dI l) ≤ 64 := by
    unfold dI
    simp only [PyData.depth]
    omega
  show (PyData.canLay0 (dI l) && decide (PyData.depth (dI l) ≤ 64)) = true
  rw [Bool.and_eq_true]
  exact ⟨by unfold dI; simp only [PyData.canLay0]; exact dI_lay l, decide_eq_true h2⟩
theorem dI_eqv : ∀ (l m : List Int), PyData.eqv (dI l) (dI m) = decide (l = m)
  | [], [] => by simp [dI, PyData.eqv, PyData.eqvAll]
  | [], _ :: _ => by simp [dI, PyData.eqv, PyData.eqvAll]
  | _ :: _, [] => by simp [dI, PyData.eqv, PyData.eqvAll]
  | a :: l, b :: m => by
    have ih := dI_eqv l m
    unfold dI at ih ⊢
    simp only [PyData.eqv] at ih
    simp only [List.map_cons, PyData.eqv, PyData.eqvAll]
    rw [ih]
    by_cases h1 : a = b
    · subst h1
      by_cases h2 : l = m
      · subst h2; simp
      · rw [decide_eq_false h2, decide_eq_false (fun e => h2 (List.cons.inj e).2), Bool.and_false]
    · rw [beq_eq_false_iff_ne.mpr h1, decide_eq_false (fun e => h1 (List.cons.inj e).1), Bool.false_and]
theorem dI_all {K : PySem.W.Frag} {H : Hp} : ∀ l : List Int, DpAll K H (l.map V.int) (l.map PyData.int)
  | [] => .nil
  | z :: zs => .cons (.int z) (dI_all zs)
theorem dI_dp {K : PySem.W.Frag} {H : Hp} {a : Addr} {l : List Int} (h : SqL K H a (l.map V.int)) : Dp K H (.ref a) (dI l) := .lst h (dI_all l)
/-- a text's numbers -/
def nI (t : List Nat) : List Int := t.map fun (n : Nat) => (n : Int)
theorem VT_nI (t : List Nat) : VT t = (nI t).map V.int := by unfold VT nI; rw [List.map_map]; rfl
theorem nI_inj {s t : List Nat} : nI s = nI t ↔ s = t := by
  constructor
  · intro h
    induction s generalizing t with
    | nil =>
      cases t with
      | nil => rfl
      | cons b t => cases h
    | cons a s ih =>
      cases t with
      | nil => cases h
      | cons b t =>
        obtain ⟨e1, e2⟩ := List.cons.inj (show (a : Int) :: nI s = (b : Int) :: nI t from h)
        have e1' : a = b := by omega
        rw [e1', ih e2]
  · intro h; rw [h]
section
variable {X : Cx}
/-- == of two lists of whole numbers -/
def rEqI (K : PySem.W.Frag) (neg : Bool) : R2 := fun x y H Q => ∃ (a b : Addr) (s t : List Int), x = .ref a ∧ y = .ref b ∧ SqL K H a (s.map V.int) ∧ SqL K H b (t.map V.int) ∧ Q (.bl (if neg = true then !decide (s = t) else decide (s = t))) H
theorem op_eqI (hu : X.A.units + 64 < cLine) : OpR X (compareOp .Eq) (rEqI X.K false) := by
  intro pins s σ H x y v u Q I rx ry h
  obtain ⟨a, b, m, n, rfl, rfl, h1, h2, q⟩ := h
  refine op_eqD hu pins s σ H _ _ v u Q I rx ry ⟨_, _, dI_dp h1, dI_dp h2, dI_shaped _, dI_shaped _, ?_⟩
  rw [dI_eqv]; exact q
theorem op_neI (hu : X.A.units + 64 < cLine) : OpR X (compareOp .NotEq) (rEqI X.K true) := by
  intro pins s σ H x y v u Q I rx ry h
  obtain ⟨a, b, m, n, rfl, rfl, h1, h2, q⟩ := h
  refine op_neD hu pins s σ H _ _ v u Q I rx ry ⟨_, _, dI_dp h1, dI_dp h2, dI_shaped _, dI_shaped _, ?_⟩
  rw [dI_eqv]; exact q
/-- == of two texts -/
def rEqT (K : PySem.W.Frag) (neg : Bool) : R2 := fun x y H Q => ∃ (a b : Addr) (s t : List Nat), x = .ref a ∧ y = .ref b ∧ SqL K H a (VT s) ∧ SqL K H b (VT t) ∧ Q (.bl (if neg = true then !decide (s = t) else decide (s = t))) H
theorem op_eqT (hu : X.A.units + 64 < cLine) : OpR X (compareOp .Eq) (rEqT X.K false) := by
  intro pins s σ H x y v u Q I rx ry h
  obtain ⟨a, b, m, n, rfl, rfl, h1, h2, q⟩ := h
  rw [VT_nI] at h1 h2
  refine op_eqI hu pins s σ H _ _ v u Q I rx ry ⟨_, _, _, _, rfl, rfl, h1, h2, ?_⟩
  have e : decide (nI m = nI n) = decide (m = n) := decide_eq_decide.mpr nI_inj
  rw [e]; exact q
theorem op_neT (hu : X.A.units + 64 < cLine) : OpR X (compareOp .NotEq) (rEqT X.K true) := by
  intro pins s σ H x y v u Q I rx ry h
  obtain ⟨a, b, m, n, rfl, rfl, h1, h2, q⟩ := h
  rw [VT_nI] at h1 h2
  refine op_neI hu pins s σ H _ _ v u Q I rx ry ⟨_, _, _, _, rfl, rfl, h1, h2, ?_⟩
  have e : decide (nI m = nI n) = decide (m = n) := decide_eq_decide.mpr nI_inj
  rw [e]; exact q
/-- == of a list of anything and an empty list -/
def rEqNil (K : PySem.W.Frag) : R2 := fun x y H Q => ∃ a b xs, x = .ref a ∧ y = .ref b ∧ SqL K H a xs ∧ SqL K H b [] ∧ Q (.bl xs.isEmpty) H
theorem op_eqNil (hu : X.A.units < cLine) : OpR X (compareOp .Eq) (rEqNil X.K) := by
  intro pins s σ H x y v u Q I rx ry h
  obtain ⟨a, b, xs, rfl, rfl, h1, h2, q⟩ := h
  cases rx
  cases ry
  obtain ⟨its, rv, p1, hz⟩ := I.list h1
  obtain ⟨its2, rv2, p2, hz2⟩ := I.list h2
  have l1 := rv.length
  have l2 : its2.length = 0 := rv2.length.symm
  have e2 : its2 = [] := List.eq_nil_of_length_eq_zero l2
  subst e2
  cases xs with
  | nil =>
    have e1 : its = [] := List.eq_nil_of_length_eq_zero l1.symm
    subst e1
    exact SeqAt.eq_listAt (e := fun _ => true) p1.isList p2.isList rfl hu (fun j h1 h2 => absurd h1 (by simp)) ⟨.bl _, H, I, rfl, q⟩
  | cons z zs =>
    refine SeqAt.eq_list_lengthsAt p1.isList p2.isList ?_ hu ⟨.bl _, H, I, rfl, q⟩
    have e1 : its.toArray.size = zs.length + 1 := by
      rw [List.size_toArray]; exact l1.symm
    rw [e1]; rfl
/-- a text in a tuple of texts, in a list of texts -/
def dTs (l : List (List Nat)) : List PyData := l.map fun t => dI (nI t)
theorem dTs_lay : ∀ l : List (List Nat), PyData.canLayAll0 (dTs l) = true
  | [] => by simp [dTs, PyData.canLayAll0]
  | z :: zs => by
    have ih := dTs_lay zs
    have h1 := SeqAt.canLay_of_shaped (dI_shaped (nI z))
    unfold dTs at ih ⊢
    rw [List.map_cons, PyData.canLayAll0, h1, ih]; rfl
theorem dTs_depth : ∀ l : List (List Nat), PyData.depthAll (dTs l) ≤ 2
  | [] => by simp [dTs, PyData.depthAll]
  | z :: zs => by
    have h1 := dTs_depth zs
    have h2 := dI_depth (nI z)
    unfold dTs at h1 ⊢
    have h3 : PyData.depth (dI (nI z)) ≤ 2 := by
      unfold dI
      simp only [PyData.depth]; omega
    simp only [List.map_cons, PyData.depthAll]
    omega
theorem dTs_shapedL (l : List (List Nat)) : SeqAt.shaped (.list (dTs l)) = true := by
  have h1 := dTs_depth l
  have h2 : PyData.depth (.list (dTs l)) ≤ 64 := by simp only [PyData.depth]; omega
  show (PyData.canLay0 (.list (dTs l)) && decide (PyData.depth (.list (dTs l)) ≤ 64)) = true
  rw [Bool.and_eq_true]
  exact ⟨by simp only [PyData.canLay0]; exact dTs_lay l, decide_eq_true h2⟩
theorem dTs_shapedT (l : List (List Nat)) : SeqAt.shaped (.tuple (dTs l)) = true := by
  have h1 := dTs_depth l
  have h2 : PyData.depth (.tuple (dTs l)) ≤ 64 := by simp only [PyData.depth]; omega
  show (PyData.canLay0 (.tuple (dTs l)) && decide (PyData.depth (.tuple (dTs l)) ≤ 64)) = true
  rw [Bool.and_eq_true]
  exact ⟨by simp only [PyData.canLay0]; exact dTs_lay l, decide_eq_true h2⟩
theorem dTs_any (l : List (List Nat)) (t : List Nat) : ((dTs l).any fun z => PyData.eqv z (dI (nI t))) = l.contains t := by
  induction l with
  | nil => rfl
  | cons z zs ih =>
    have e : dTs (z :: zs) = dI (nI z) :: dTs zs := rfl
    rw [e, List.any_cons, ih, dI_eqv, List.contains_cons]
    congr 1
    rw [decide_eq_decide.mpr nI_inj]
    by_cases h : z = t
    · subst h; simp
    · rw [decide_eq_false h]; exact (beq_eq_false_iff_ne.mpr fun e => h e.symm).symm
theorem dTs_dp {K : PySem.W.Frag} {H : Hp} : ∀ {as : List Addr} {l : List (List Nat)}, Paired (fun a t => SqL K H a (VT t)) as l → DpAll K H (as.map V.ref) (dTs l)
  | _, _, .nil => .nil
  | _, _, .cons r t => .cons (dI_dp (by rw [← VT_nI]; exact r)) (dTs_dp t)
theorem dEqT_list (l m : List (List Nat)) : PyData.eqv (.list (dTs l)) (.list (dTs m)) = decide (l = m) := by
  rw [PyData.eqv]
  induction l generalizing m with
  | nil =>
    cases m with
    | nil => rfl
    | cons a m => rfl
  | cons a l ih =>
    cases m with
    | nil => rfl
    | cons b m =>
      show PyData.eqvAll (dI (nI a) :: dTs l) (dI (nI b) :: dTs m) = _
      rw [PyData.eqvAll, ih, dI_eqv, decide_eq_decide.mpr nI_inj]
      by_cases h1 : a = b
      · subst h1
        by_cases h2 : l = m
        · subst h2; simp
        · rw [decide_eq_false h2, decide_eq_false (fun e => h2 (List.cons.inj e).2), Bool.and_false]
      · rw [decide_eq_false h1, decide_eq_false (fun e => h1 (List.cons.inj e).1), Bool.false_and]
def rNotInTT (K : PySem.W.Frag) : R2 := fun x y H Q => ∃ a t p as l, x = .ref a ∧ SqL K H a (VT t) ∧ y = .ref p ∧ SqT K H p (as.map V.ref) ∧ Paired (fun a t => SqL K H a (VT t)) as l ∧ Q (.bl (!l.contains t)) H
theorem op_notInTT (hu : X.A.units + 65 < cLine) : OpR X (compareOp .NotIn) (rNotInTT X.K) := by
  intro pins s σ H x y v u Q I rx ry h
  obtain ⟨a, t, p, as, l, rfl, h1, rfl, h2, h3, q⟩ := h
  have hd : Dp X.K H (.ref a) (dI (nI t)) := dI_dp (by rw [← VT_nI]; exact h1)
  have he : Dp X.K H (.ref p) (.tuple (dTs l)) := .tup h2 (dTs_dp h3)
  obtain ⟨as1, r1⟩ := Dp.reads I _ _ v hd rx
  obtain ⟨bs, r2⟩ := Dp.reads I _ _ u he ry
  refine SeqAt.notIn_tuple_reads r2 r1 (SeqAt.canLay_of_shaped (dTs_shapedT l)) (SeqAt.canLay_of_shaped (dI_shaped _)) (room_in_shaped (dI_shaped _) hu) ⟨.bl _, H, I, rfl, ?_⟩
  rw [dTs_any]; exact q
def rInTL (K : PySem.W.Frag) : R2 := fun x y H Q => ∃ a t p as l, x = .ref a ∧ SqL K H a (VT t) ∧ y = .ref p ∧ SqL K H p (as.map V.ref) ∧ Paired (fun a t => SqL K H a (VT t)) as l ∧ Q (.bl (l.contains t)) H
theorem op_inTL (hu : X.A.units + 65 < cLine) : OpR X (compareOp .In) (rInTL X.K) := by
  intro pins s σ H x y v u Q I rx ry h
  obtain ⟨a, t, p, as, l, rfl, h1, rfl, h2, h3, q⟩ := h
  refine op_inD hu pins s σ H _ _ v u Q I rx ry ⟨dI (nI t), dTs l, dI_dp (by rw [← VT_nI]; exact h1), .lst h2 (dTs_dp h3), dI_shaped _, dTs_shapedL l, ?_⟩
  rw [dTs_any]; exact q
/-- == of two lists of texts -/
def rEqTL (K : PySem.W.Frag) : R2 := fun x y H Q => ∃ a b as bs l m, x = .ref a ∧ y = .ref b ∧ SqL K H a (as.map V.ref) ∧ Paired (fun a t => SqL K H a (VT t)) as l ∧ SqL K H b (bs.map V.ref) ∧ Paired (fun a t => SqL K H a (VT t)) bs m ∧ Q (.bl (decide (l = m))) H
theorem op_eqTL (hu : X.A.units + 64 < cLine) : OpR X (compareOp .Eq) (rEqTL X.K) := by
  intro pins s σ H x y v u Q I rx ry h
  obtain ⟨a, b, as, bs, l, m, rfl, rfl, h1, h2, h3, h4, q⟩ := h
  refine op_eqD hu pins s σ H _ _ v u Q I rx ry ⟨.list (dTs l), .list (dTs m), .lst h1 (dTs_dp h2), .lst h3 (dTs_dp h4), dTs_shapedL l, dTs_shapedL m, ?_⟩
  rw [dEqT_list]; exact q
end
end Kn
namespace Kn
open PySem PySem.Spec PyProof.Rows L2
section
variable {P : Program} {w : World} {K : PySem.W.Frag} {mg : Str → Option Value} {base : Heap}
/-! ### number_of -/
def spNumber (K : PySem.W.Frag) : Sp := fun vs H Q _ => ∃ (a : Addr) (t : List Nat), vs = [.ref a] ∧ SqL K H a (VT t) ∧ t.length ≤ 3000 ∧ ∀ H', Same H H' → Q (.int (numI t)) H'
theorem sc_number_of : FnScope ["word", "number", "byte"] ["word"] (defScope s_number_of) := ⟨rfl, rfl, rfl, by decide +kernel, rfl, by decide +kernel, by decide +kernel⟩
theorem ok_number_of (T : Txt K mg) (D : Def K mg "number_of" s_number_of) (c_is_digit : Cal P w K mg base CX0 1 "is_digit" ["byte"] (spByte Vbktaa.digit)) : Cal P w K mg base CX0 2 "number_of" ["word"] (spNumber K) := by
  have sc := sc_number_of
  refine Cal.mk' D sc (fun _ _ _ _ _ _ us hl => match us, hl with | [_], _ => rfl) (fun vs H Q E h => ?_) (fun f cdv A outer s H vs Q E hr h => ?_)
  · obtain ⟨_, _, rfl, _⟩ := h; rfl
  obtain ⟨a, t, rfl, hS, hl, k⟩ := h
  refine ⟨_, PSs.nox (pss_cons (ps_if (PW.pt (pw_or (pt_not (pt_chain op_le op_le pe_int (pe_callB call_len_seq (by rfl) T.f_len (by decide +kernel) (pa_cons (pv 0) pa_nil)) (pe_gi T.i_MOST_DIGITS))) (pw_or1 (pt_not (pt_val (pe_callB (cr_all rfl) (by rfl) T.f_all (by decide +kernel) (pa_cons (pe_lc (own := [("byte", 2)]) (g := gName 2) rfl sc.nd (pi_list (pv 0)) (blkOk_by (N := ["word", "number", "byte"]) (sc := defScope s_number_of) (by decide +kernel)) (fun _ _ _ _ _ => (pg_name (i := 2) sc.nd rfl (Or.inl rfl))) (fun _ _ _ _ _ => pts_nil) (fun _ _ _ _ _ => (pe_f c_is_digit hr pass0 (pa_cons (pv 2) pa_nil)))) pa_nil))))))) (pss_one (ps_ret (pe_un un_neg pe_int))) pss_nil)
    (pss_cons (ps_if (PW.pt (pw_and (pt_cmpR op_eq (pe_ix ix_list (pv 0) pe_int (fun _ _ => rfl)) pe_int (nomark _)) (pw_and1 (pt_cmpR op_gt (pe_callB call_len_seq (by rfl) T.f_len (by decide +kernel) (pa_cons (pv 0) pa_nil)) pe_int (nomark _))))) (pss_one (ps_ret (pe_un un_neg pe_int))) pss_nil)
    (pss_cons (ps_set (i := 1) sc.nd rfl (Or.inl rfl) pe_int)
    (pss_cons (ps_for PassesOwn.never rfl (pi_list (pv 0)) (pg_name (i := 2) sc.nd rfl (Or.inl rfl)) (pss_one (ps_set (i := 1) sc.nd rfl (Or.inl rfl) (pe_op op_sub (pe_op op_add (pe_op op_mul pe_int (pv 1)) (pv 2)) pe_int))))
    (pss_one (ps_ret (pv 1))))))), ?_⟩
  have eL : (VT t).length = t.length := VT_len t
  refine ⟨_, rfl, a, _, rfl, .inl hS, _, _, rfl, rfl, _, rfl, ?_⟩
  by_cases c1 : (1 : Int) ≤ ((VT t).length : Int)
  · refine if_true_of (decide_eq_true c1) ⟨_, _, rfl, rfl, _, rfl, ?_⟩
    by_cases c2 : ((VT t).length : Int) ≤ 4
    · refine if_false_of (by rw [decide_eq_true c2]; rfl) ?_
      refine ⟨_, rfl, a, rfl, ⟨_, hS⟩, fun D hD => lc_it walk_list (fun i H' => Same H H' ∧ H' D = some (.lst ((t.take i).map fun n => V.bl (Vbktaa.digit n)))) ⟨same_new hD, upd_same⟩ (fun i H' _ q => q.1.seq hS) ?_ ?_⟩
      · rintro i x H1 H2 hi ⟨s1, hd⟩ ⟨rfl, hx⟩
        obtain ⟨n, hn, rfl⟩ := VT_get hx
        refine ⟨rfl, _, rfl, n, rfl, _, hd, small ?_, same_put s1 hD, ?_⟩
        · rw [List.length_map, List.length_take]; omega
        · rw [upd_same, take_more hn, List.map_append]; rfl
      · rintro H1 ⟨s1, hd⟩
        rw [eL, take_all] at hd
        have hd' : H1 D = some (.lst ((t.map Vbktaa.digit).map V.bl)) := by rw [hd, List.map_map]; rfl
        refine ⟨D, _, rfl, SqL.of hd', _, rfl, ?_⟩
        have eA : (t.map Vbktaa.digit).all id = t.all Vbktaa.digit := by rw [List.all_map]; rfl
        rw [eA]
        cases cA : t.all Vbktaa.digit with
        | false =>
          refine if_true_of rfl ⟨_, rfl, ?_⟩
          have e := numI_bad (w := t) (fun z => by rw [cA] at z; exact absurd z.2.2 (by decide))
          rw [e] at k
          exact k H1 s1
        | true =>
          refine if_false_of rfl ?_
          have hS1 := s1.seq hS
          have h0 : 0 < t.length := by omega
          have e0 : (VT t)[0]? = some (.int (t[0] : Int)) := by
            unfold VT
            rw [List.getElem?_map, List.getElem?_eq_getElem h0]; rfl
          refine ⟨_, rfl, a, _, _, _, rfl, rfl, hS1, atI_nat (j := 0) e0, rfl, _, rfl, ?_⟩
          have hh : t.head? = some t[0] := by
            rw [List.head?_eq_getElem?, List.getElem?_eq_getElem h0]
          have good : ¬ (1 < t.length ∧ t.head? = some 48) → tSeq (tAsg (tC (V.int 0)) (gName 1)) (tSeq (tFor (iList K (tVar 0)) (gName 2) (tAsg (tOp (rI0 fun i j => .int (i - j)) (tOp (rI0 fun i j => .int (i + j)) (tOp (rI CMul fun i j => .int (i * j)) (tC (V.int 10)) (tVar 1)) (tVar 2)) (tC (V.int 48))) (gName 1))) (tRet (tVar 1)))
              { nx := fun x H' => Q V.non H', rt := Q } (L2.start ["word", "number", "byte"] [.ref a]) H1 := by
            intro hg
            have en := numI_good (w := t) ⟨by omega, by omega, cA⟩ hg
            refine ⟨_, rfl, a, rfl, ⟨_, hS1⟩, for_it walk_list (fun i σ H' => ∃ v : Option V, σ = [some (.ref a), some (.int (Vbktaa.num (t.take i) : Int)), v] ∧ H' = H1) ⟨none, rfl, rfl⟩ (fun i σ H' _ ⟨_, _, q⟩ => by rw [q]; exact hS1) ?_ ?_⟩
            · rintro i x σ H2 H3 hi ⟨v, rfl, rfl⟩ ⟨rfl, hx⟩
              obtain ⟨n, hn, rfl⟩ := VT_get hx
              refine ⟨_, rfl, _, _, rfl, rfl, .inl ⟨by decide, by decide⟩, _, rfl, _, _, rfl, rfl, _, _, rfl, rfl, some (.int (n : Int)), ?_, rfl⟩
              have hdg : 48 ≤ n := by
                have := List.all_eq_true.mp cA n (List.mem_of_getElem? hn)
                exact (digit_iff.mp this).1
              have e : (10 * (Vbktaa.num (t.take i) : Int) + (n : Int) - 48) = (Vbktaa.num (t.take (i + 1)) : Int) := by
                rw [take_more hn, num_snoc]; omega
              show [some (V.ref a), some (V.int (10 * (Vbktaa.num (t.take i) : Int) + (n : Int) - 48)), some (V.int (n : Int))] = _
              rw [e]
            · rintro σ H2 ⟨v, rfl, rfl⟩
              refine ⟨_, rfl, ?_⟩
              rw [eL, take_all, ← en]
              exact k _ s1
          by_cases c3 : t[0] = 48
          · refine if_true_of (decide_eq_true (by rw [c3]; rfl)) ?_
            refine ⟨_, rfl, a, _, rfl, .inl hS1, _, _, rfl, rfl, _, rfl, ?_⟩
            by_cases c4 : (1 : Int) < ((VT t).length : Int)
            · refine if_true_of (decide_eq_true c4) ⟨_, rfl, ?_⟩
              have e := numI_zero (w := t) (by omega) (by rw [hh, c3])
              rw [e] at k
              exact k H1 s1
            · exact if_false_of (decide_eq_false c4) (good fun z => by omega)
          · exact if_false_of (decide_eq_false (fun e => c3 (by have := V.int.inj e; omega))) (if_false_of rfl (good fun z => by rw [hh] at z; exact c3 (Option.some.inj z.2)))
    · refine if_true_of (by rw [decide_eq_false c2]; rfl) (if_true_of rfl ⟨_, rfl, ?_⟩)
      have e := numI_bad (w := t) (fun z => by omega)
      rw [e] at k
      exact k H (Same.refl H)
  · refine if_false_of (decide_eq_false c1) ⟨_, rfl, if_true_of rfl (if_true_of rfl ⟨_, rfl, ?_⟩)⟩
    have e := numI_bad (w := t) (fun z => by omega)
    rw [e] at k
    exact k H (Same.refl H)
end
end Kn
namespace Kn
open PySem PySem.Spec PyProof.Rows L2
theorem flat_VT (t : List Nat) : (VT t).all flatV = true := by
  unfold VT
  rw [List.all_map, List.all_eq_true]
  intro x _; rfl
theorem inV_VT (c : Nat) (t : List Nat) : inV (.int (c : Int)) (VT t) = t.contains c := by
  unfold inV VT
  rw [List.any_map]
  induction t with
  | nil => rfl
  | cons a r ih =>
    rw [List.any_cons, ih, List.contains_cons]
    congr 1
    show ((a : Int) == (c : Int)) = (c == a)
    by_cases h : c = a
    · subst h; simp
    · rw [beq_eq_false_iff_ne.mpr h]
      exact beq_eq_false_iff_ne.mpr (by omega)
theorem VT_at {t : List Nat} {i n : Nat} (h : t[i]? = some n) : (VT t)[i]? = some (.int (n : Int)) := by
  unfold VT
  rw [List.getElem?_map, h]; rfl
theorem last_at {t : List Nat} {c : Nat} (h : t.getLast? = some c) : atI (VT t) (-1) = some (.int (c : Int)) := by
  rw [getLast_some h, VT_app]
  exact atI_last _ _
theorem findIdx_facts {ls : List Nat} {c : Nat} (h : c ∈ ls) : ls[ls.findIdx fun x => x == c]? = some c ∧ ∀ (m : Nat) (z : Nat), m < ls.findIdx (fun x => x == c) → ls[m]? = some z → z ≠ c := by
  have z := (idx_in h).1
  refine ⟨?_, fun m y hm hy e => ?_⟩
  · have := List.findIdx_getElem (w := z)
    rw [List.getElem?_eq_getElem z, beq_iff_eq.mp this]
  · have := List.not_of_lt_findIdx hm
    obtain ⟨h1, e1⟩ := List.getElem?_eq_some_iff.mp hy
    rw [e1, e] at this
    exact absurd (beq_self_eq_true c) (by rw [this]; decide)
theorem cut_init (xs : List V) : cutV xs none (some (-1)) = xs.dropLast := by
  unfold cutV
  have h1 : HT.sIx xs.length 0 none = 0 := rfl
  rw [h1, List.drop_zero, Nat.sub_zero]
  have h2 : HT.sIx xs.length xs.length (some (-1)) = xs.length - 1 := by
    unfold HT.sIx
    simp
    omega
  rw [h2, List.dropLast_eq_take]
theorem VT_dropLast (t : List Nat) : (VT t).dropLast = VT t.dropLast := by
  unfold VT
  rw [List.map_dropLast]
section
variable {P : Program} {w : World} {K : PySem.W.Frag} {mg : Str → Option Value} {base : Heap}
/-! ### term_of -/
def spTerm (K : PySem.W.Frag) : Sp := fun vs H Q _ => ∃ (a l : Addr) (t ls : List Nat), vs = [.ref a, .ref l] ∧ SqL K H a (VT t) ∧ SqL K H l (VT ls) ∧ t.length ≤ 3000 ∧ ls.length ≤ 100 ∧ Letters ls ∧
  ∀ (H' : Hp) (p : Addr), Same H H' → H p = none → H' p = some (.tup [.int (termI ls t).1, .int (termI ls t).2]) → Q (.ref p) H'
theorem sc_term_of : FnScope ["word", "letters", "number", "place"] ["word", "letters"] (defScope s_term_of) := ⟨rfl, rfl, rfl, by decide +kernel, rfl, by decide +kernel, by decide +kernel⟩
theorem ok_term_of (T : Txt K mg) (D : Def K mg "term_of" s_term_of) (c_number_of : Cal P w K mg base CX0 2 "number_of" ["word"] (spNumber K)) : Cal P w K mg base CX0 3 "term_of" ["word", "letters"] (spTerm K) := by
  have sc := sc_term_of
  refine Cal.mk' D sc (fun _ _ _ _ _ _ us hl => match us, hl with | [_, _], _ => rfl) (fun vs H Q E h => ?_) (fun f cdv A outer s H vs Q E hr h => ?_)
  · obtain ⟨_, _, _, _, rfl, _⟩ := h; rfl
  obtain ⟨a, l, t, ls, rfl, hS, hL, hl, hl2, hLet, k⟩ := h
  refine ⟨_, PSs.nox (pss_cons (ps_if (PW.pt (pw_or (pt_cmpR (op_eqT hr.units) (pv 0) (pe_lst pa_nil) (nomark _)) (pw_or1 (pt_cmpR op_notIn_seq (pe_ix ix_list (pv 0) (pe_un un_neg pe_int) (fun _ _ => rfl)) (pv 1) (by rfl))))) (pss_cons (ps_set (i := 2) sc.nd rfl (Or.inl rfl) (pe_f c_number_of hr pass0 (pa_cons (pv 0) pa_nil)))
      (pss_one (ps_ret (pe_tup (pa_cons (pe_callB (call_max2 rfl) (by rfl) T.f_max (by decide +kernel) (pa_cons pe_int (pa_cons (pv 2) pa_nil))) (pa_cons (pe_callB (call_min2 rfl) (by rfl) T.f_min (by decide +kernel) (pa_cons pe_int (pa_cons (pv 2) pa_nil))) pa_nil)))))) pss_nil)
    (pss_cons (ps_set (i := 3) sc.nd rfl (Or.inl rfl) (pe_op op_add pe_int (pe_bm PySem.F.plainAttrs_list PySem.F.slot_list_index PySem.F.type_list_index mt_index (pv 1) (pa_cons (pe_ix ix_list (pv 0) (pe_un un_neg pe_int) (fun _ _ => rfl)) pa_nil))))
    (pss_cons (ps_if (pt_cmpR op_eq (pe_callB call_len_seq (by rfl) T.f_len (by decide +kernel) (pa_cons (pv 0) pa_nil)) pe_int (nomark _)) (pss_one (ps_ret (pe_tup (pa_cons pe_int (pa_cons (pv 3) pa_nil))))) pss_nil)
    (pss_cons (ps_set (i := 2) sc.nd rfl (Or.inl rfl) (pe_f c_number_of hr pass0 (pa_cons (pe_slice sl_list (pv 0) po_none (po_some (pe_un un_neg pe_int))) pa_nil)))
    (pss_cons (ps_if (pt_cmpR op_lt (pv 2) pe_int (nomark _)) (pss_one (ps_ret (pe_tup (pa_cons pe_int (pa_cons (pe_un un_neg pe_int) pa_nil))))) pss_nil)
    (pss_one (ps_ret (pe_tup (pa_cons (pv 2) (pa_cons (pv 3) pa_nil)))))))))), ?_⟩
  refine ⟨_, rfl, small' (by decide), fun e0 he0 => ?_⟩
  have s1 : Same H (upd H e0 (.lst [])) := same_new he0
  refine ⟨a, e0, t, [], rfl, rfl, s1.seq hS, SqL.of upd_same, _, rfl, ?_⟩
  -- the word is plain: no letter at its end
  have plain : ∀ H1, Same H H1 → (t = [] ∨ ∃ c, t.getLast? = some c ∧ c ∉ ls) → tSeq (tAsg (tCall (spNumber K) [] E0 (tCons (tVar 0) tNil)) (gName 2)) (tRet (tTup (tCons (tCB (fun xs H Q => ∃ i j, xs = [.int i, .int j] ∧ Q (.int (if j > i then j else i)) H) (tCons (tC (.int 0)) (tCons (tVar 2) tNil))) (tCons (tCB (fun xs H Q => ∃ i j, xs = [.int i, .int j] ∧ Q (.int (if j < i then j else i)) H) (tCons (tC (.int 0)) (tCons (tVar 2) tNil))) tNil))))
      { nx := fun x H' => Q V.non H', rt := Q } (L2.start ["word", "letters", "number", "place"] [.ref a, .ref l]) H1 := by
    intro H1 s2 hp
    refine ⟨_, rfl, a, t, rfl, s2.seq hS, hl, fun H2 s3 => ?_⟩
    refine ⟨_, rfl, _, _, rfl, _, rfl, _, _, rfl, small' (by show 2 ≤ 16000000; decide), fun p hp2 => ?_⟩
    refine k _ p (same_put (s2.trans s3) ((s2.trans s3).free hp2)) ((s2.trans s3).free hp2) ?_
    rw [upd_same, termI_plain hLet hp]
    have h1 : (if numI t > 0 then numI t else 0) = max 0 (numI t) := by
      by_cases z : numI t > 0
      · rw [if_pos z]; omega
      · rw [if_neg z]; omega
    have h2 : (if numI t < 0 then numI t else 0) = min 0 (numI t) := by
      by_cases z : numI t < 0
      · rw [if_pos z]; omega
      · rw [if_neg z]; omega
    rw [h1, h2]
  by_cases c1 : t = []
  · exact if_true_of (decide_eq_true c1) (if_true_of rfl (plain _ s1 (.inl c1)))
  · refine if_false_of (decide_eq_false c1) ?_
    obtain ⟨c, hc⟩ : ∃ c, t.getLast? = some c := by
      cases z : t.getLast? with
      | none => exact absurd (List.getLast?_eq_none_iff.mp z) c1
      | some c => exact ⟨c, rfl⟩
    refine ⟨_, rfl, _, rfl, a, _, _, _, rfl, rfl, s1.seq hS, last_at hc, _, rfl, l, _, rfl, .inl (s1.seq hL), rfl, flat_VT ls, _, rfl, ?_⟩
    rw [inV_VT]
    by_cases c2 : c ∈ ls
    · refine if_false_of (by simp [c2]) ?_
      have hf := findIdx_facts c2
      refine ⟨_, rfl, .inl ⟨rfl, _, s1.seq hL⟩, _, rfl, _, rfl, a, _, _, _, rfl, rfl, s1.seq hS, last_at hc, l, _, _, _, _, rfl, rfl, s1.seq hL, rfl, flat_VT ls, VT_at hf.1, ?_, ?_, ?_⟩
      · show ((c : Int) == (c : Int)) = true
        exact beq_self_eq_true _
      · intro m z' hm hz
        obtain ⟨n, hn, rfl⟩ := VT_get hz
        show ((n : Int) == (c : Int)) = false
        exact beq_eq_false_iff_ne.mpr (by have := hf.2 m n hm hn; omega)
      · refine ⟨_, _, rfl, rfl, _, rfl, a, _, rfl, .inl (s1.seq hS), rfl, _, rfl, ?_⟩
        have eT := termI_letter hLet hc c2
        have ePl : (1 : Int) + ((ls.findIdx fun x => x == c : Nat) : Int) = ((ls.findIdx fun x => x == c : Nat) : Int) + 1 := Int.add_comm _ _
        by_cases c3 : t.length = 1
        · refine if_true_of (decide_eq_true (by rw [VT_len, c3]; rfl)) ?_
          rw [if_pos c3] at eT
          refine ⟨_, rfl, small' (by show 2 ≤ 16000000; decide), fun p hp2 => k _ p (same_put s1 (s1.free hp2)) (s1.free hp2) ?_⟩
          rw [upd_same, eT]
          show some (HO.tup [V.int 1, V.int (1 + ((ls.findIdx fun x => x == c : Nat) : Int))]) = _
          rw [ePl]
        · refine if_false_of (decide_eq_false (fun e => c3 (by have := V.int.inj e; rw [VT_len] at this; omega))) ?_
          rw [if_neg c3] at eT
          refine ⟨_, rfl, _, rfl, _, rfl, a, _, rfl, s1.seq hS, fun q hq => ?_⟩
          have s2 : Same H (upd (upd H e0 (.lst [])) q (.lst (cutV (VT t) none (some (-1))))) := same_put s1 (s1.free hq)
          refine ⟨q, t.dropLast, rfl, SqL.of (by rw [upd_same, cut_init, VT_dropLast]), by rw [List.length_dropLast]; omega, fun H2 s3 => ?_⟩
          have s4 := s2.trans s3
          refine ⟨_, rfl, _, _, rfl, rfl, _, rfl, ?_⟩
          by_cases c4 : numI t.dropLast < 2
          · refine if_true_of (decide_eq_true c4) ?_
            rw [if_pos c4] at eT
            refine ⟨_, rfl, small' (by show 2 ≤ 16000000; decide), fun p hp2 => k _ p (same_put s4 (s4.free hp2)) (s4.free hp2) ?_⟩
            rw [upd_same, eT]
          · refine if_false_of (decide_eq_false c4) ?_
            rw [if_neg c4] at eT
            refine ⟨_, rfl, _, rfl, small' (by show 2 ≤ 16000000; decide), fun p hp2 => k _ p (same_put s4 (s4.free hp2)) (s4.free hp2) ?_⟩
            rw [upd_same, eT]
            show some (HO.tup [V.int (numI t.dropLast), V.int (1 + ((ls.findIdx fun x => x == c : Nat) : Int))]) = _
            rw [ePl]
    · exact if_true_of (by simp [c2]) (plain _ s1 (.inr ⟨c, hc, c2⟩))
end
end Kn
namespace Kn
open PySem PySem.Spec PyProof.Rows L2
open Vbktaa (terms termsFrom)
theorem same_add {F H : Hp} {b : Addr} {o : HO} (s : Same F H) (h : H b = some o) : Same (upd F b o) H := fun c u q => by
  by_cases e : c = b
  · rw [e, upd_same] at q
    rw [e, ← q]; exact h
  · rw [upd_ne e] at q
    exact s c u q
theorem same_upd2 {F : Hp} {b : Addr} {o : HO} (n : F b = none) : Same F (upd F b o) := same_new n
theorem none_of_same {F H : Hp} {b : Addr} (s : Same F H) (h : H b = none) : F b = none := s.free h
theorem ne_some_none {H : Hp} {a b : Addr} {o : HO} (h : H a = some o) (h' : H b = none) : b ≠ a := fun e => by rw [e, h] at h'; cases h'
/-- terms: each a sign and a text -/
def TermL (H : Hp) (as : List Addr) (l : List (Bool × List Nat)) : Prop := Paired (fun a x => ∃ b, H a = some (.tup [.int (sg x.1), .ref b]) ∧ H b = some (.lst (VT x.2))) as l
theorem TermL.mono {H H' : Hp} (s : Same H H') {as : List Addr} {l : List (Bool × List Nat)} (h : TermL H as l) : TermL H' as l := paired_mono (fun _ _ ⟨b, h1, h2⟩ => ⟨b, s _ _ h1, s _ _ h2⟩) h
theorem paired_snoc {α β : Type} {F : α → β → Prop} {a : α} {b : β} (h : F a b) : ∀ {l : List α} {m : List β}, Paired F l m → Paired F (l ++ [a]) (m ++ [b])
  | _, _, .nil => .cons h .nil
  | _, _, .cons r t => .cons r (paired_snoc h t)
theorem paired_get {α β : Type} {F : α → β → Prop} : ∀ {l : List α} {m : List β} {i : Nat} {a : α}, Paired F l m → l[i]? = some a → ∃ b, m[i]? = some b ∧ F a b
  | _, _, _, _, .nil, h => by simp at h
  | _, _, 0, a, .cons r t, h => by
    have e := Option.some.inj (show some _ = some a from h)
    subst e
    exact ⟨_, rfl, r⟩
  | _, _, i + 1, a, .cons r t, h => paired_get (i := i) t (by simpa using h)
theorem paired_len {α β : Type} {F : α → β → Prop} : ∀ {l : List α} {m : List β}, Paired F l m → l.length = m.length
  | _, _, .nil => rfl
  | _, _, .cons _ t => congrArg (· + 1) (paired_len t)
section
variable {P : Program} {w : World} {K : PySem.W.Frag} {mg : Str → Option Value} {base : Heap}
/-! ### terms_in -/
def spTerms (K : PySem.W.Frag) : Sp := fun vs H Q _ => ∃ (a : Addr) (t : List Nat), vs = [.ref a] ∧ SqL K H a (VT t) ∧ t.length ≤ 3000 ∧
  ∀ (H' : Hp) (p : Addr) (as : List Addr), Same H H' → H' p = some (.lst (as.map V.ref)) → TermL H' as (terms t) → Q (.ref p) H'
theorem sc_terms_in : FnScope ["word", "sign", "first", "found", "byte"] ["word"] (defScope s_terms_in) := ⟨rfl, rfl, rfl, by decide +kernel, rfl, by decide +kernel, by decide +kernel⟩
theorem cut_from (xs : List V) (k : Nat) (h : k ≤ xs.length) : cutV xs (some (k : Int)) none = xs.drop k := by
  unfold cutV
  have h1 : HT.sIx xs.length 0 (some (k : Int)) = k := by
    show (if ((k : Int) < 0) then ((k : Int) + (xs.length : Int)).toNat else min (k : Int).toNat xs.length) = k
    rw [if_neg (by omega)]
    omega
  have h2 : HT.sIx xs.length xs.length none = xs.length := rfl
  rw [h1, h2]
  exact List.take_of_length_le (by rw [List.length_drop]; omega)
theorem VT_drop (t : List Nat) (k : Nat) : (VT t).drop k = VT (t.drop k) := by
  unfold VT
  rw [List.map_drop]
/-- what the loop over a word's signs holds -/
structure TermsIn (H H' : Hp) (p : Addr) (neg : Bool) (u : List Nat) : Prop where
  ex : ∃ (F : Hp) (as : List Addr) (a b : Addr) (ls : List (Bool × List Nat)) (s : Bool) (v : List Nat), Same H F ∧ Same F H' ∧ F p = none ∧ F b = none ∧ b ≠ p ∧ termsFrom [] u neg = ls ++ [(s, v)] ∧ TermL F as ls ∧
    H' p = some (.lst ((as ++ [a]).map V.ref)) ∧ F a = some (.tup [.int (sg s), .ref b]) ∧ H' b = some (.lst (VT v)) ∧ v.length ≤ u.length ∧ ls.length ≤ u.length
theorem ok_terms_in (T : Txt K mg) (D : Def K mg "terms_in" s_terms_in) : Cal P w K mg base CX0 1 "terms_in" ["word"] (spTerms K) := by
  have sc := sc_terms_in
  refine Cal.mk' D sc (fun _ _ _ _ _ _ us hl => match us, hl with | [_], _ => rfl) (fun vs H Q E h => ?_) (fun f cdv A outer s H vs Q E hr h => ?_)
  · obtain ⟨_, _, rfl, _⟩ := h; rfl
  obtain ⟨a, t, rfl, hS, hl, k⟩ := h
  obtain ⟨tr, hT, go⟩ : ∃ tr, PSs (cxOf CX0 P w K mg base ["word", "sign", "first", "found", "byte"] "terms_in" (defScope s_terms_in) f cdv A outer s H E).nox ((defBody s_terms_in).drop 3) tr ∧
      ∀ (H1 : Hp) (neg : Bool) (k1 : Nat), Same H H1 → k1 ≤ t.length → terms t = termsFrom [] (t.drop k1) neg → tr { nx := fun x H' => Q V.non H', rt := Q } [some (.ref a), some (.int (sg neg)), some (.int (k1 : Int)), none, none] H1 := by
    refine ⟨_, (pss_cons (ps_set (i := 3) sc.nd rfl (Or.inl rfl) (pe_lst (pa_cons (pe_tup (pa_cons (pv 1) (pa_cons (pe_lst pa_nil) pa_nil))) pa_nil)))
    (pss_cons (ps_for PassesOwn.never rfl (pi_list (pe_slice sl_list (pv 0) (po_some (pv 2)) po_none)) (pg_name (i := 4) sc.nd rfl (Or.inl rfl)) (pss_one (ps_if (pt_cmpR op_eq (pv 4) (pe_gi T.i_PLUS) (nomark _)) (pss_one (ps_expr (pe_bm PySem.F.plainAttrs_list PySem.F.slot_list_append PySem.F.type_list_append mt_append (pv 3) (pa_cons (pe_tup (pa_cons pe_int (pa_cons (pe_lst pa_nil) pa_nil))) pa_nil)))) (pss_one (ps_if (pt_cmpR op_eq (pv 4) (pe_gi T.i_MINUS) (nomark _)) (pss_one (ps_expr (pe_bm PySem.F.plainAttrs_list PySem.F.slot_list_append PySem.F.type_list_append mt_append (pv 3) (pa_cons (pe_tup (pa_cons (pe_un un_neg pe_int) (pa_cons (pe_lst pa_nil) pa_nil))) pa_nil)))) (pss_one (ps_expr (pe_bm PySem.F.plainAttrs_list PySem.F.slot_list_append PySem.F.type_list_append mt_append (pe_ix ix_tup (pe_ix ix_list (pv 3) (pe_un un_neg pe_int) (fun _ _ => rfl)) pe_int (fun _ _ => rfl)) (pa_cons (pv 4) pa_nil)))))))))
    (pss_one (ps_ret (pv 3))))), fun H1 neg k1 s1 hk1 eT => ?_⟩
    refine ⟨_, rfl, small' (by decide), fun b hb => ⟨small' (by show 2 ≤ 16000000; decide), fun r hr1 => ⟨small' (by show 1 ≤ 16000000; decide), fun p hp => ?_⟩⟩⟩
    have n1 : r ≠ b := fun e => by rw [e, upd_same] at hr1; cases hr1
    have hr2 : H1 r = none := by rw [upd_ne n1] at hr1; exact hr1
    have n2 : p ≠ r := fun e => by rw [e, upd_same] at hp; cases hp
    have hp2 : upd H1 b (.lst []) p = none := by rw [upd_ne n2] at hp; exact hp
    have n3 : p ≠ b := fun e => by rw [e, upd_same] at hp2; cases hp2
    have hp3 : H1 p = none := by rw [upd_ne n3] at hp2; exact hp2
    have sA : Same H1 (upd (upd (upd H1 b (.lst [])) r (.tup [.int (sg neg), .ref b])) p (.lst [.ref r])) := same_put (same_put (same_new hb) hr2) hp3
    have i0 : TermsIn H (upd (upd (upd H1 b (.lst [])) r (.tup [.int (sg neg), .ref b])) p (.lst [.ref r])) p neg [] := by
      refine ⟨upd H1 r (.tup [.int (sg neg), .ref b]), [], r, b, [], neg, [], same_put s1 (s1.free hr2), same_add sA ?_, ?_, ?_, Ne.symm n3, rfl, .nil, upd_same, upd_same, ?_, Nat.le_refl _, Nat.le_refl _⟩
      · rw [upd_ne (Ne.symm n2)]; exact upd_same
      · rw [upd_ne n2]; exact hp3
      · rw [upd_ne (Ne.symm n1)]; exact hb
      · rw [upd_ne (Ne.symm n3), upd_ne (Ne.symm n1)]; exact upd_same
    have sS := (s1.trans sA)
    refine ⟨_, rfl, _, rfl, _, rfl, a, _, rfl, sS.seq hS, fun d hd => ?_⟩
    rw [cut_from _ _ (by rw [VT_len]; exact hk1), VT_drop]
    have nd : d ≠ p := fun e => by rw [e, upd_same] at hd; cases hd
    refine ⟨d, rfl, ⟨_, SqL.of upd_same⟩, for_it walk_list (fun i σ H' => ∃ v : Option V, σ = [some (.ref a), some (.int (sg neg)), some (.int (k1 : Int)), some (.ref p), v] ∧ H' d = some (.lst (VT (t.drop k1))) ∧ TermsIn (upd H d (.lst (VT (t.drop k1)))) H' p neg ((t.drop k1).take i))
      ⟨none, rfl, upd_same, ?_⟩ (fun i σ H' _ ⟨_, _, q, _⟩ => SqL.of q) ?_ ?_⟩
    · obtain ⟨F, as, c, b', ls, s', v', g1, g2, g3, g4, g5, g6, g7, g8, g9, g10, g11, g12⟩ := i0.ex
      have hFd : F d = none := g2.free hd
      have sF := same_new (o := .lst (VT (t.drop k1))) hFd
      refine ⟨upd F d (.lst (VT (t.drop k1))), as, c, b', ls, s', v', fun x o q => ?_, fun x o q => ?_, ?_, ?_, g5, g6, g7.mono sF, put_at hd g8, sF _ _ g9, put_at hd g10, g11, g12⟩
      · by_cases e : x = d
        · rw [e, upd_same] at q ⊢; exact q
        · rw [upd_ne e] at q ⊢; exact g1 x o q
      · by_cases e : x = d
        · rw [e, upd_same] at q ⊢; exact q
        · rw [upd_ne e] at q ⊢; exact g2 x o q
      · rw [upd_ne (Ne.symm nd)]; exact g3
      · rw [upd_ne (fun e => by rw [e, hd] at g10; cases g10)]; exact g4
    · rintro i x σ H2 H3 hi ⟨v, rfl, hdl, inv⟩ ⟨rfl, hx⟩
      obtain ⟨n, hn, rfl⟩ := VT_get hx
      rw [VT_len] at hi
      obtain ⟨F, as, c, b', ls, s', v', g1, g2, g3, g4, g5, g6, g7, g8, g9, g10, g11, g12⟩ := inv.ex
      have hsn := termsFrom_snoc (c := n) _ _ _ _ _ _ g6
      rw [← take_more hn] at hsn
      have lt : ((t.drop k1).take (i + 1)).length = ((t.drop k1).take i).length + 1 := by rw [List.length_take, List.length_take]; omega
      have l3 : ((t.drop k1).take i).length ≤ 3000 := by rw [List.length_take, List.length_drop]; omega
      have lenA : as.length = ls.length := paired_len g7
      have Fd : F d = some (.lst (VT (t.drop k1))) := g1 _ _ upd_same
      have ndb : d ≠ b' := fun e => by rw [e, g4] at Fd; cases Fd
      -- a sign: a new term begins
      have add : ∀ (z : Bool), termsFrom [] ((t.drop k1).take (i + 1)) neg = (ls ++ [(s', v')]) ++ [(z, [])] → ∀ b1, H3 b1 = none → ∀ r1, upd H3 b1 (.lst []) r1 = none →
          ∃ v : Option V, [some (.ref a), some (.int (sg neg)), some (.int (k1 : Int)), some (.ref p), some (.int (n : Int))] = [some (.ref a), some (.int (sg neg)), some (.int (k1 : Int)), some (.ref p), v] ∧
            upd (upd (upd H3 b1 (.lst [])) r1 (.tup [.int (sg z), .ref b1])) p (.lst ((as ++ [c]).map V.ref ++ [.ref r1])) d = some (.lst (VT (t.drop k1))) ∧
            TermsIn (upd H d (.lst (VT (t.drop k1)))) (upd (upd (upd H3 b1 (.lst [])) r1 (.tup [.int (sg z), .ref b1])) p (.lst ((as ++ [c]).map V.ref ++ [.ref r1]))) p neg ((t.drop k1).take (i + 1)) := by
        intro z ez b1 hb1 r1 hr1
        have m1 : r1 ≠ b1 := fun e => by rw [e, upd_same] at hr1; cases hr1
        have hr2 : H3 r1 = none := by rw [upd_ne m1] at hr1; exact hr1
        have m2 := ne_some_none g8 hb1
        have m3 := ne_some_none g8 hr2
        have m4 := ne_some_none g10 hb1
        have m5 := ne_some_none g10 hr2
        refine ⟨_, rfl, ?_, ?_⟩
        · rw [upd_ne nd]; exact put_at hr1 (put_at hb1 hdl)
        · have sF : Same F (upd (upd F b' (.lst (VT v'))) r1 (.tup [.int (sg z), .ref b1])) := same_put (same_new g4) (g2.free hr2)
          refine ⟨upd (upd F b' (.lst (VT v'))) r1 (.tup [.int (sg z), .ref b1]), as ++ [c], r1, b1, ls ++ [(s', v')], z, [], g1.trans sF, ?_, ?_, ?_, m2, ez, ?_, ?_, upd_same, ?_, Nat.zero_le _, ?_⟩
          · refine same_add (same_add ?_ ?_) ?_
            · exact same_put (same_put (same_put g2 (g2.free hb1)) (g2.free hr2)) g3
            · rw [upd_ne g5]; exact put_at hr1 (put_at hb1 g10)
            · rw [upd_ne m3]; exact upd_same
          · rw [upd_ne (Ne.symm m3), upd_ne (Ne.symm g5)]; exact g3
          · rw [upd_ne (Ne.symm m1), upd_ne m4]; exact g2.free hb1
          · exact paired_snoc ⟨b', sF _ _ g9, by rw [upd_ne (Ne.symm m5)]; exact upd_same⟩ (g7.mono sF)
          · rw [upd_same, List.map_append (l₁ := as ++ [c])]; rfl
          · rw [upd_ne m2, upd_ne (Ne.symm m1)]; exact upd_same
          · rw [List.length_append, List.length_singleton, lt]; omega
      refine ⟨_, rfl, rfl, _, rfl, ?_⟩
      by_cases c1 : n = 43
      · refine if_true_of (decide_eq_true (by rw [c1]; rfl)) ?_
        rw [if_pos c1] at hsn
        refine ⟨_, rfl, .inl ⟨rfl, _, SqL.of g8⟩, small' (by decide), fun b1 hb1 => ⟨small' (by show 2 ≤ 16000000; decide), fun r1 hr1 => ⟨p, _, _, rfl, rfl, put_at hr1 (put_at hb1 g8), ?_, add false hsn b1 hb1 r1 hr1⟩⟩⟩
        rw [List.length_map, List.length_append, List.length_singleton]; exact small (by omega)
      · refine if_false_of (decide_eq_false (fun e => c1 (by have := V.int.inj e; omega))) ?_
        rw [if_neg c1] at hsn
        refine ⟨_, rfl, rfl, _, rfl, ?_⟩
        by_cases c2 : n = 45
        · refine if_true_of (decide_eq_true (by rw [c2]; rfl)) ?_
          rw [if_pos c2] at hsn
          refine ⟨_, rfl, .inl ⟨rfl, _, SqL.of g8⟩, _, rfl, small' (by decide), fun b1 hb1 => ⟨small' (by show 2 ≤ 16000000; decide), fun r1 hr1 => ⟨p, _, _, rfl, rfl, put_at hr1 (put_at hb1 g8), ?_, add true hsn b1 hb1 r1 hr1⟩⟩⟩
          rw [List.length_map, List.length_append, List.length_singleton]; exact small (by omega)
        · refine if_false_of (decide_eq_false (fun e => c2 (by have := V.int.inj e; omega))) ?_
          rw [if_neg c2] at hsn
          refine ⟨_, rfl, _, rfl, p, _, _, .ref c, rfl, rfl, SqL.of g8, ?_, c, _, _, .ref b', rfl, rfl, SqT.of (g2 _ _ g9), rfl, .inl ⟨rfl, _, SqL.of g10⟩, _, rfl, b', _, _, rfl, rfl, g10, ?_, some (.int (n : Int)), rfl, ?_, ?_⟩
          · show atI _ (-1) = _
            rw [List.map_append]
            exact atI_last _ _
          · rw [VT_len]; exact small (by omega)
          · rw [upd_ne ndb]; exact hdl
          · refine ⟨F, as, c, b', ls, s', v' ++ [n], g1, same_put g2 g4, g3, g4, g5, hsn, g7, ?_, g9, ?_, ?_, ?_⟩
            · rw [upd_ne (Ne.symm g5)]; exact g8
            · rw [upd_same, VT_app]; rfl
            · rw [List.length_append, List.length_singleton, lt]; omega
            · rw [lt]; omega
    · rintro σ H2 ⟨v, rfl, hdl, inv⟩
      obtain ⟨F, as, c, b', ls, s', v', g1, g2, g3, g4, g5, g6, g7, g8, g9, g10, g11, g12⟩ := inv.ex
      rw [VT_len, take_all] at g6
      have sH : Same H (upd H d (.lst (VT (t.drop k1)))) := same_new (sS.free hd)
      refine ⟨_, rfl, k _ _ _ (sH.trans (g1.trans g2)) g8 ?_⟩
      rw [eT, g6]
      exact paired_snoc ⟨b', g2 _ _ g9, g10⟩ (g7.mono g2)
  refine ⟨_, PSs.nox (pss_cons (ps_set (i := 1) sc.nd rfl (Or.inl rfl) pe_int)
    (pss_cons (ps_set (i := 2) sc.nd rfl (Or.inl rfl) pe_int)
    (pss_cons (ps_if (PW.pt (pw_and (pt_cmpR (op_neT hr.units) (pv 0) (pe_lst pa_nil) (nomark _)) (pw_and1 (pt_cmpR op_eq (pe_ix ix_list (pv 0) pe_int (fun _ _ => rfl)) (pe_gi T.i_MINUS) (nomark _))))) (pss_cons (ps_set (i := 1) sc.nd rfl (Or.inl rfl) (pe_un un_neg pe_int))
      (pss_one (ps_set (i := 2) sc.nd rfl (Or.inl rfl) pe_int))) pss_nil)
    hT))), ?_⟩
  refine ⟨_, rfl, small' (by decide), fun e0 he0 => ?_⟩
  have s1 : Same H (upd H e0 (.lst [])) := same_new he0
  refine ⟨a, e0, t, [], rfl, rfl, s1.seq hS, SqL.of upd_same, _, rfl, ?_⟩
  by_cases c1 : t = []
  · refine if_false_of (by show (!decide (t = [])) = false; rw [decide_eq_true c1]; rfl) ?_
    exact go _ false 0 s1 (Nat.zero_le _) (by rw [List.drop_zero]; exact terms_else (by rw [c1]; simp))
  · refine if_true_of (by show (!decide (t = [])) = true; rw [decide_eq_false c1]; rfl) ?_
    obtain ⟨n0, r0, rfl⟩ : ∃ n0 r0, t = n0 :: r0 := by
      cases t with
      | nil => exact absurd rfl c1
      | cons n0 r0 => exact ⟨n0, r0, rfl⟩
    refine ⟨_, rfl, a, _, _, _, rfl, rfl, s1.seq hS, atI_nat (j := 0) (VT_at rfl), rfl, _, rfl, ?_⟩
    by_cases c2 : n0 = 45
    · refine if_true_of (decide_eq_true (by rw [c2]; rfl)) ⟨_, rfl, ?_⟩
      exact go _ true 1 s1 (by simp) (by rw [c2]; rfl)
    · refine if_false_of (decide_eq_false (fun e => c2 (by have := V.int.inj e; omega))) ?_
      exact go _ false 0 s1 (Nat.zero_le _) (by rw [List.drop_zero]; exact terms_else (by simp; exact c2))
end
end Kn
namespace Kn
open PySem PySem.Spec PyProof.Rows L2
open Vbktaa (terms termsFrom Form)
/-- a form: a list of its number and how many times each letter -/
def FormAt (H : Hp) (a : Addr) (f : Form) : Prop := H a = some (.lst ((fL f).map V.int))
theorem FormAt.mono {H H' : Hp} (s : Same H H') {a : Addr} {f : Form} (h : FormAt H a f) : FormAt H' a f := s _ _ h
/-- what a def answers that tells a form or None -/
def FormQ (H : Hp) (o : Option Form) (Q : VK) : Prop := ∀ H', Same H H' → match o with
  | none => Q .non H'
  | some f => ∀ p, H p = none → FormAt H' p f → Q (.ref p) H'
theorem termsFrom_tlen : ∀ (w acc : List Nat) (neg : Bool) (x : Bool × List Nat), x ∈ termsFrom acc w neg → x.2.length ≤ acc.length + w.length
  | [], acc, neg, x, h => by
    have e : x = (neg, acc.reverse) := by simpa [termsFrom] using h
    subst e
    simp
  | y :: r, acc, neg, x, h => by
    have h' : x ∈ (if y = 43 then (neg, acc.reverse) :: termsFrom [] r false else if y = 45 then (neg, acc.reverse) :: termsFrom [] r true else termsFrom (y :: acc) r neg) := h
    have step : ∀ b, x ∈ (neg, acc.reverse) :: termsFrom [] r b → x.2.length ≤ acc.length + (y :: r).length := by
      intro b hb
      rcases List.mem_cons.mp hb with e | hb
      · subst e; simp
      · have := termsFrom_tlen r [] b x hb
        rw [List.length_cons]; rw [List.length_nil] at this; omega
    by_cases h1 : y = 43
    · rw [if_pos h1] at h'; exact step _ h'
    · rw [if_neg h1] at h'
      by_cases h2 : y = 45
      · rw [if_pos h2] at h'; exact step _ h'
      · rw [if_neg h2] at h'
        have := termsFrom_tlen r (y :: acc) neg x h'
        rw [List.length_cons] at this ⊢; omega
theorem termLen {t : List Nat} {x : Bool × List Nat} (h : x ∈ terms t) : x.2.length ≤ t.length := by
  unfold terms at h
  split at h
  · rename_i r
    have := termsFrom_tlen _ _ _ _ h
    rw [List.length_cons]; rw [List.length_nil] at this; omega
  · have := termsFrom_tlen _ _ _ _ h
    rw [List.length_nil] at this; omega
section
variable {P : Program} {w : World} {K : PySem.W.Frag} {mg : Str → Option Value} {base : Heap}
/-! ### form_of -/
def spForm (K : PySem.W.Frag) : Sp := fun vs H Q _ => ∃ (a l : Addr) (t ls : List Nat), vs = [.ref a, .ref l] ∧ SqL K H a (VT t) ∧ SqL K H l (VT ls) ∧ t.length ≤ 3000 ∧ ls.length ≤ 100 ∧ Letters ls ∧ FormQ H (formI ls t) Q
theorem sc_form_of : FnScope ["word", "letters", "terms", "found", "sign", "own", "number", "place"] ["word", "letters"] (defScope s_form_of) := ⟨rfl, rfl, rfl, by decide +kernel, rfl, by decide +kernel, by decide +kernel⟩
theorem int_rep (n : Nat) : (List.replicate n (V.int 0)) = (List.replicate n (0 : Int)).map V.int := by rw [List.map_replicate]
theorem ok_form_of (T : Txt K mg) (D : Def K mg "form_of" s_form_of) (c_terms_in : Cal P w K mg base CX0 1 "terms_in" ["word"] (spTerms K)) (c_term_of : Cal P w K mg base CX0 3 "term_of" ["word", "letters"] (spTerm K)) :
    Cal P w K mg base CX0 4 "form_of" ["word", "letters"] (spForm K) := by
  have sc := sc_form_of
  refine Cal.mk' D sc (fun _ _ _ _ _ _ us hl => match us, hl with | [_, _], _ => rfl) (fun vs H Q E h => ?_) (fun f cdv A outer s H vs Q E hr h => ?_)
  · obtain ⟨_, _, _, _, rfl, _⟩ := h; rfl
  obtain ⟨a, l, t, ls, rfl, hS, hL, hl, hl2, hLet, k⟩ := h
  refine ⟨_, PSs.nox (pss_cons (ps_set (i := 2) sc.nd rfl (Or.inl rfl) (pe_f c_terms_in hr pass0 (pa_cons (pv 0) pa_nil)))
    (pss_cons (ps_if (pt_cmpR op_gt (pe_callB call_len_seq (by rfl) T.f_len (by decide +kernel) (pa_cons (pv 2) pa_nil)) (pe_gi T.i_MOST_TERMS) (nomark _)) (pss_one (ps_ret pe_non)) pss_nil)
    (pss_cons (ps_set (i := 3) sc.nd rfl (Or.inl rfl) (pe_op op_rep (pe_lst (pa_cons pe_int pa_nil)) (pe_op op_add pe_int (pe_callB call_len_seq (by rfl) T.f_len (by decide +kernel) (pa_cons (pv 1) pa_nil)))))
    (pss_cons (ps_for PassesOwn.never rfl (pi_list (pv 2)) (pg_tup rfl (pgs_cons (pg_name (i := 4) sc.nd rfl (Or.inl rfl)) (pgs_cons (pg_name (i := 5) sc.nd rfl (Or.inl rfl)) pgs_nil))) (pss_cons (ps_asg (pe_f c_term_of hr pass0 (pa_cons (pv 5) (pa_cons (pv 1) pa_nil))) (pg_tup rfl (pgs_cons (pg_name (i := 6) sc.nd rfl (Or.inl rfl)) (pgs_cons (pg_name (i := 7) sc.nd rfl (Or.inl rfl)) pgs_nil))))
      (pss_cons (ps_if (pt_cmpR op_lt (pv 7) pe_int (nomark _)) (pss_one (ps_ret pe_non)) pss_nil)
      (pss_one (ps_asg (pe_op op_add (pe_ix ix_list (pv 3) (pv 7) (fun _ _ => rfl)) (pe_op op_mul (pv 4) (pv 6))) (pg_sub (pv 3) (pv 7) set_list))))))
    (pss_cons (ps_if (pt_not (pt_val (pe_callB (cr_all rfl) (by rfl) T.f_all (by decide +kernel) (pa_cons (pe_lc (own := [("number", 6)]) (g := gName 6) rfl sc.nd (pi_list (pv 3)) (blkOk_by (N := ["word", "letters", "terms", "found", "sign", "own", "number", "place"]) (sc := defScope s_form_of) (by decide +kernel)) (fun _ _ _ _ _ => (pg_name (i := 6) sc.nd rfl (Or.inl rfl))) (fun _ _ _ _ _ => pts_nil) (fun _ _ _ _ _ => (pe_cmpR op_le (pe_callB call_abs (by rfl) T.f_abs (by decide +kernel) (pa_cons (pv 6) pa_nil)) (pe_gi T.i_MOST_NUMBER) (nomark _)))) pa_nil)))) (pss_one (ps_ret pe_non)) pss_nil)
    (pss_one (ps_ret (pv 3)))))))), ?_⟩
  refine ⟨_, rfl, a, t, rfl, hS, hl, fun H1 tp as s1 htp hTL => ?_⟩
  have lenA := paired_len hTL
  refine ⟨_, rfl, tp, _, rfl, .inl (SqL.of htp), _, _, rfl, rfl, _, rfl, ?_⟩
  rw [List.length_map]
  by_cases c1 : 6 < (terms t).length
  · refine if_true_of (decide_eq_true (by omega)) ?_
    have := k H1 s1
    rw [form_long c1] at this
    exact this
  refine if_false_of (decide_eq_false (by omega)) ?_
  refine ⟨small' (by show 1 ≤ 16000000; decide), fun z0 hz0 => ⟨_, rfl, l, _, rfl, .inl ((s1.trans (same_new hz0)).seq hL), _, _, rfl, rfl, z0, _, [.int 0], rfl, rfl, upd_same, ?_⟩⟩
  have eR : (1 : Int) + ((VT ls).length : Int) = ((1 + ls.length : Nat) : Int) := by rw [VT_len]; omega
  refine ⟨by rw [eR]; omega, by rw [eR]; omega, by rw [eR, Int.toNat_natCast]; exact small' (by simp; omega), fun fp hfp => ?_⟩
  have eV : (List.replicate ((1 : Int) + ((VT ls).length : Int)).toNat [V.int 0]).flatten = (sumI ls []).map V.int := by
    rw [eR, Int.toNat_natCast]
    show _ = (List.replicate (1 + ls.length) (0 : Int)).map V.int
    rw [List.map_replicate]
    generalize 1 + ls.length = n
    induction n with
    | zero => rfl
    | succ n ih => rw [List.replicate_succ, List.flatten_cons, ih, List.replicate_succ]; rfl
  have s2 : Same H1 (upd (upd H1 z0 (.lst [.int 0])) fp (.lst ((sumI ls []).map V.int))) := same_put (same_new hz0) ((same_new hz0).free hfp)
  have hfp1 : H1 fp = none := (same_new hz0).free hfp
  have hfpH : H fp = none := s1.free hfp1
  refine ⟨_, rfl, tp, rfl, ⟨_, SqL.of (put_at hfp (put_at hz0 htp))⟩, for_it walk_list (fun i σ H' => ∃ (v1 v2 v3 v4 : Option V), σ = [some (.ref a), some (.ref l), some (.ref tp), some (.ref fp), v1, v2, v3, v4] ∧ Same H1 H' ∧ H' fp = some (.lst ((sumI ls ((terms t).take i)).map V.int)) ∧ ∀ x ∈ (terms t).take i, ¬ (termI ls x.2).2 < 0)
    ⟨none, none, none, none, rfl, ?_, ?_, by simp⟩ (fun i σ H' _ ⟨_, _, _, _, _, q, _⟩ => SqL.of (q _ _ htp)) ?_ ?_⟩
  · rw [eV]; exact s2
  · rw [eV]; exact upd_same
  · rintro i x σ H2 H3 hi ⟨v1, v2, v3, v4, rfl, s3, hf, hgood⟩ ⟨rfl, hx⟩
    obtain ⟨x1, hx1, rfl⟩ := map_get hx
    obtain ⟨⟨sgn, own⟩, hterm, b, hb1, hb2⟩ := paired_get hTL hx1
    have hmem : (sgn, own) ∈ terms t := List.mem_of_getElem? hterm
    have hown : own.length ≤ 3000 := by
      have : own.length ≤ t.length := termLen hmem
      omega
    refine ⟨x1, _, rfl, SqT.of (s3 _ _ hb1), rfl, _, _, rfl, _, _, rfl, rfl, ?_⟩
    refine ⟨_, rfl, _, rfl, b, l, own, ls, rfl, SqL.of (s3 _ _ hb2), (s1.trans s3).seq hL, hown, hl2, hLet, fun H4 np s4 hnp hn4 => ?_⟩
    refine ⟨np, _, rfl, SqT.of hn4, rfl, _, _, rfl, _, _, rfl, rfl, ?_⟩
    have s5 := s3.trans s4
    refine ⟨_, rfl, _, _, rfl, rfl, _, rfl, ?_⟩
    by_cases c2 : (termI ls own).2 < 0
    · refine if_true_of (decide_eq_true c2) ?_
      have := k H4 (s1.trans s5)
      rw [form_bad hmem c2] at this
      exact this
    · refine if_false_of (decide_eq_false c2) ?_
      have pl := termI_place ls own
      have hlen : (sumI ls ((terms t).take i)).length = 1 + ls.length := sumI_len ls _
      obtain ⟨j, hj⟩ : ∃ j : Nat, (termI ls own).2 = (j : Int) := ⟨(termI ls own).2.toNat, by omega⟩
      have hjl : j < (sumI ls ((terms t).take i)).length := by rw [hlen]; omega
      have hf4 := s4 _ _ hf
      have hat : ((sumI ls ((terms t).take i)).map V.int)[j]? = some (V.int ((sumI ls ((terms t).take i)).getD j 0)) := by
        rw [List.getElem?_map, List.getD_eq_getElem?_getD, List.getElem?_eq_getElem hjl]; rfl
      refine ⟨_, rfl, _, rfl, fp, _, _, _, rfl, rfl, SqL.of hf4, by rw [hj]; exact atI_nat hat, _, rfl, _, rfl, _, _, rfl, rfl, ?_, _, _, rfl, rfl, _, rfl, _, rfl, fp, _, _, j, rfl, rfl, hf4, ?_, ?_⟩
      · refine .inl ?_
        cases sgn
        · exact ⟨by show (-(2 ^ 64) : Int) < 1; decide, by show (1 : Int) < 2 ^ 64; decide⟩
        · exact ⟨by show (-(2 ^ 64) : Int) < -1; decide, by show (-1 : Int) < 2 ^ 64; decide⟩
      · rw [hj, List.length_map]
        unfold ixN
        rw [if_pos (by omega), if_pos (by omega)]; rfl
      · refine ⟨_, _, _, _, rfl, same_put s5 hfp1, ?_, ?_⟩
        · rw [upd_same, take_more hterm, sumI_snoc]
          unfold addL share
          rw [← List.map_set, hj, Int.toNat_natCast]
        · intro x hxm
          rw [take_more hterm] at hxm
          rcases List.mem_append.mp hxm with m | m
          · exact hgood x m
          · rw [List.mem_singleton.mp m]; exact c2
  · rintro σ H2 ⟨v1, v2, v3, v4, rfl, s3, hf, hgood⟩
    rw [List.length_map, lenA, take_all] at hf hgood
    obtain ⟨fm, ef, eg⟩ := form_good c1 hgood
    have sum_small : (sumI ls (terms t)).length = 1 + ls.length := sumI_len ls _
    refine ⟨_, rfl, fp, rfl, ⟨_, SqL.of hf⟩, fun D hD => lc_it walk_list (fun i H' => Same H2 H' ∧ H' D = some (.lst (((sumI ls (terms t)).take i).map fun n => V.bl (decide (n.natAbs ≤ 9999))))) ⟨same_new hD, upd_same⟩ (fun i H' _ q => q.1.seq (SqL.of hf)) ?_ ?_⟩
    · rintro i x H3 H4 hi ⟨s4, hd⟩ ⟨rfl, hx⟩
      obtain ⟨n, hn, rfl⟩ := map_get hx
      refine ⟨rfl, _, rfl, _, rfl, _, _, rfl, rfl, _, hd, small ?_, same_put s4 hD, ?_⟩
      · rw [List.length_map, List.length_take]; omega
      · rw [upd_same, take_more hn, List.map_append]
        have e : decide ((if n < 0 then -n else n) ≤ 9999) = decide (n.natAbs ≤ 9999) := decide_eq_decide.mpr (by
          by_cases z : n < 0
          · rw [if_pos z]; omega
          · rw [if_neg z]; omega)
        show some (HO.lst (_ ++ [V.bl (decide ((if n < 0 then -n else n) ≤ 9999))])) = _
        rw [e]; rfl
    · rintro H3 ⟨s4, hd⟩
      rw [List.length_map, take_all] at hd
      have hd' : H3 D = some (.lst (((sumI ls (terms t)).map fun n => decide (n.natAbs ≤ 9999)).map V.bl)) := by rw [hd, List.map_map]; rfl
      refine ⟨D, _, rfl, SqL.of hd', _, rfl, ?_⟩
      have eA : ((sumI ls (terms t)).map fun n => decide (n.natAbs ≤ 9999)).all id = (sumI ls (terms t)).all fun n => decide (n.natAbs ≤ 9999) := by rw [List.all_map]; rfl
      rw [eA]
      have kk := k H3 (s1.trans (s3.trans s4))
      rw [eg] at kk
      cases cA : (sumI ls (terms t)).all fun n => decide (n.natAbs ≤ 9999) with
      | false =>
        rw [cA] at kk
        exact if_true_of rfl kk
      | true =>
        rw [cA, if_pos rfl] at kk
        refine if_false_of rfl ⟨_, rfl, kk fp hfpH ?_⟩
        unfold FormAt
        rw [ef]
        exact s4 _ _ hf
end
end Kn
namespace Kn
open PySem PySem.Spec PyProof.Rows L2
open Vbktaa (Form)
section
variable {P : Program} {w : World} {K : PySem.W.Frag} {mg : Str → Option Value} {base : Heap}
theorem fL_zero (f : Form) : ((fL f).map V.int)[0]? = some (.int f.c) := rfl
theorem fL_rest (f : Form) : cutV ((fL f).map V.int) (some ((1 : Nat) : Int)) none = f.l.map V.int := by
  rw [cut_from _ _ (by rw [List.length_map]; simp [fL])]; rfl
theorem fL_rest' (f : Form) : cutV ((fL f).map V.int) (some 1) none = f.l.map V.int := fL_rest f
/-- coefficients are small -/
def SmallF (f : Form) : Prop := ∀ a ∈ fL f, a.natAbs ≤ 9999
/-! ### value_of -/
def spValue (K : PySem.W.Frag) : Sp := fun vs H Q _ => ∃ (a b : Addr) (f : Form) (v : List Int), vs = [.ref a, .ref b] ∧ FormAt H a f ∧ SqL K H b (v.map V.int) ∧ f.l.length = v.length ∧ SmallF f ∧ ∀ H', Same H H' → Q (.int (Vbktaa.value v f)) H'
theorem sc_value_of : FnScope ["form", "size", "total", "many", "value"] ["form", "size"] (defScope s_value_of) := ⟨rfl, rfl, rfl, by decide +kernel, rfl, by decide +kernel, by decide +kernel⟩
theorem ok_value_of (T : Txt K mg) (D : Def K mg "value_of" s_value_of) : Cal P w K mg base CX0 1 "value_of" ["form", "size"] (spValue K) := by
  have sc := sc_value_of
  refine Cal.mk' D sc (fun _ _ _ _ _ _ us hl => match us, hl with | [_, _], _ => rfl) (fun vs H Q E h => ?_) (fun f cdv A outer s H vs Q E hr h => ?_)
  · obtain ⟨_, _, _, _, rfl, _⟩ := h; rfl
  obtain ⟨a, b, fm, v, rfl, hF, hV, hl, hsm, k⟩ := h
  refine ⟨_, PSs.nox (pss_cons (ps_set (i := 2) sc.nd rfl (Or.inl rfl) (pe_ix ix_list (pv 0) pe_int (fun _ _ => rfl)))
    (pss_cons (ps_for PassesOwn.never rfl (pi_zip (by rfl) T.f_zip (pa_cons (pe_slice sl_list (pv 0) (po_some pe_int) po_none) (pa_cons (pv 1) pa_nil))) (pg_tup rfl (pgs_cons (pg_name (i := 3) sc.nd rfl (Or.inl rfl)) (pgs_cons (pg_name (i := 4) sc.nd rfl (Or.inl rfl)) pgs_nil))) (pss_one (ps_set (i := 2) sc.nd rfl (Or.inl rfl) (pe_op op_add (pv 2) (pe_op op_mul (pv 3) (pv 4))))))
    (pss_one (ps_ret (pv 2))))), ?_⟩
  refine ⟨_, rfl, a, _, _, _, rfl, rfl, SqL.of hF, atI_nat (j := 0) (fL_zero fm), _, rfl, _, rfl, a, _, rfl, SqL.of hF, fun d hd => ?_⟩
  rw [fL_rest']
  have s1 : Same H (upd H d (.lst (fm.l.map V.int))) := same_new hd
  refine ⟨_, rfl, d, b, _, _, rfl, SqL.of upd_same, s1.seq hV, for_it (walk_zip (n := fm.l.length) (by rw [List.length_map, List.length_map]; omega))
    (fun i σ H' => ∃ (v3 v4 : Option V), σ = [some (.ref a), some (.ref b), some (.int (((fm.l.zip v).take i).foldl (fun t x => t + x.1 * x.2) fm.c)), v3, v4] ∧ Same (upd H d (.lst (fm.l.map V.int))) H')
    ⟨none, none, rfl, Same.refl _⟩ (fun i σ H' _ ⟨_, _, _, q⟩ => ⟨SqL.of (q _ _ upd_same), q.seq (s1.seq hV)⟩) ?_ ?_⟩
  · rintro i x σ H1 H2 hi ⟨v3, v4, rfl, s2⟩ ⟨t, x1, x2, rfl, ht, rfl, hx1, hx2⟩
    obtain ⟨m, hm, rfl⟩ := map_get hx1
    obtain ⟨n, hn, rfl⟩ := map_get hx2
    refine ⟨t, _, rfl, SqT.of upd_same, rfl, _, _, rfl, _, _, rfl, rfl, ?_⟩
    have hz : (fm.l.zip v)[i]? = some (m, n) := by
      rw [List.getElem?_zip_eq_some]; exact ⟨hm, hn⟩
    have hmm : m.natAbs ≤ 9999 := hsm m (List.mem_cons_of_mem _ (List.mem_of_getElem? hm))
    refine ⟨_, rfl, _, rfl, _, rfl, _, _, rfl, rfl, .inl ⟨by omega, by omega⟩, _, _, rfl, rfl, some (.int m), some (.int n), ?_, same_put s2 (s2.free ht)⟩
    rw [take_more hz, List.foldl_append]; rfl
  · rintro σ H1 ⟨v3, v4, rfl, s2⟩
    refine ⟨_, rfl, ?_⟩
    have e : (fm.l.zip v).take fm.l.length = fm.l.zip v := List.take_of_length_le (by rw [List.length_zip]; omega)
    rw [e, ← value_eq]
    exact k H1 (s1.trans s2)
/-! ### signed -/
def spSigned : Sp := fun vs H Q _ => ∃ (n : Int) (c : Bool), vs = [.int n, .bl c] ∧ New H (VT (signT n c)) Q
theorem sc_signed : FnScope ["number", "first"] ["number", "first"] (defScope s_signed) := ⟨rfl, rfl, rfl, by decide +kernel, rfl, by decide +kernel, by decide +kernel⟩
theorem ok_signed (T : Txt K mg) (D : Def K mg "signed" s_signed) : Cal P w K mg base CX0 1 "signed" ["number", "first"] spSigned := by
  have sc := sc_signed
  refine Cal.mk' D sc (fun _ _ _ _ _ _ us hl => match us, hl with | [_, _], _ => rfl) (fun vs H Q E h => ?_) (fun f cdv A outer s H vs Q E hr h => ?_)
  · obtain ⟨_, _, rfl, _⟩ := h; rfl
  obtain ⟨n, c, rfl, k⟩ := h
  refine ⟨_, PSs.nox (pss_cons (ps_if (pt_cmpR op_lt (pv 0) pe_int (nomark _)) (pss_one (ps_ret (pe_lst (pa_cons (pe_gi T.i_MINUS) pa_nil)))) pss_nil)
    (pss_cons (ps_if (pt_val (pv 1)) (pss_one (ps_ret (pe_lst pa_nil))) pss_nil)
    (pss_one (ps_ret (pe_lst (pa_cons (pe_gi T.i_PLUS) pa_nil)))))), ?_⟩
  refine ⟨_, rfl, _, _, rfl, rfl, _, rfl, ?_⟩
  by_cases c1 : n < 0
  · refine if_true_of (decide_eq_true c1) ⟨small' (by show 1 ≤ 16000000; decide), fun p hp => k _ p (same_new hp) hp ?_⟩
    rw [upd_same]
    unfold signT
    rw [if_pos c1]; rfl
  · refine if_false_of (decide_eq_false c1) ⟨_, rfl, _, rfl, ?_⟩
    cases c with
    | true =>
      refine if_true_of rfl ⟨small' (by decide), fun p hp => k _ p (same_new hp) hp ?_⟩
      rw [upd_same]
      unfold signT
      rw [if_neg c1]; rfl
    | false =>
      refine if_false_of rfl ⟨small' (by show 1 ≤ 16000000; decide), fun p hp => k _ p (same_new hp) hp ?_⟩
      rw [upd_same]
      unfold signT
      rw [if_neg c1]; rfl
/-! ### is_one -/
def oneF (f : Form) : Bool := decide (f.c = 1) && f.l.all fun a => a == 0
def spOne (K : PySem.W.Frag) : Sp := fun vs H Q _ => ∃ (a : Addr) (f : Form), vs = [.ref a] ∧ FormAt H a f ∧ f.l.length ≤ 1000 ∧ ∀ H', Same H H' → Q (.bl (oneF f)) H'
theorem sc_is_one : FnScope ["form", "many"] ["form"] (defScope s_is_one) := ⟨rfl, rfl, rfl, by decide +kernel, rfl, by decide +kernel, by decide +kernel⟩
/-- any([many != 0 for many in form[1:]]) -/
theorem any_nz {H : Hp} {l : List Int} : (l.map fun a => !decide (V.int a = V.int 0)).any id = !l.all fun a => a == 0 := by
  induction l with
  | nil => rfl
  | cons a r ih =>
    rw [List.map_cons, List.any_cons, ih, List.all_cons]
    have e : decide (V.int a = V.int 0) = (a == 0) := by
      by_cases h : a = 0
      · subst h; rfl
      · rw [beq_eq_false_iff_ne.mpr h]; exact decide_eq_false fun q => h (V.int.inj q)
    show ((!decide (V.int a = V.int 0)) || !(r.all fun a => a == 0)) = !((a == 0) && r.all fun a => a == 0)
    rw [e, Bool.not_and]
theorem ok_is_one (T : Txt K mg) (D : Def K mg "is_one" s_is_one) : Cal P w K mg base CX0 1 "is_one" ["form"] (spOne K) := by
  have sc := sc_is_one
  refine Cal.mk' D sc (fun _ _ _ _ _ _ us hl => match us, hl with | [_], _ => rfl) (fun vs H Q E h => ?_) (fun f cdv A outer s H vs Q E hr h => ?_)
  · obtain ⟨_, _, rfl, _⟩ := h; rfl
  obtain ⟨a, fm, rfl, hF, hl, k⟩ := h
  refine ⟨_, PSs.nox (pss_one (ps_ret (pe_and (pe_cmpR op_eq (pe_ix ix_list (pv 0) pe_int (fun _ _ => rfl)) pe_int (nomark _)) (pe_one (pe_not (pe_callB (cr_any rfl) (by rfl) T.f_any (by decide +kernel) (pa_cons (pe_lc (own := [("many", 1)]) (g := gName 1) rfl sc.nd (pi_list (pe_slice sl_list (pv 0) (po_some pe_int) po_none)) (blkOk_by (N := ["form", "many"]) (sc := defScope s_is_one) (by decide +kernel)) (fun _ _ _ _ _ => (pg_name (i := 1) sc.nd rfl (Or.inl rfl))) (fun _ _ _ _ _ => pts_nil) (fun _ _ _ _ _ => (pe_cmpR op_ne (pv 1) pe_int (nomark _)))) pa_nil))))))), ?_⟩
  refine ⟨_, rfl, a, _, _, _, rfl, rfl, SqL.of hF, atI_nat (j := 0) (fL_zero fm), rfl, _, rfl, ?_⟩
  by_cases c1 : fm.c = 1
  · refine if_true_of (decide_eq_true (by rw [c1])) ?_
    refine ⟨_, rfl, _, rfl, a, _, rfl, SqL.of hF, fun d hd => ?_⟩
    rw [fL_rest']
    have s1 : Same H (upd H d (.lst (fm.l.map V.int))) := same_new hd
    refine ⟨d, rfl, ⟨_, SqL.of upd_same⟩, fun D hD => lc_it walk_list (fun i H' => Same (upd H d (.lst (fm.l.map V.int))) H' ∧ H' D = some (.lst ((fm.l.take i).map fun n => V.bl (!decide (V.int n = V.int 0))))) ⟨same_new hD, upd_same⟩ (fun i H' _ q => SqL.of (q.1 _ _ upd_same)) ?_ ?_⟩
    · rintro i x H3 H4 hi ⟨s4, hdd⟩ ⟨rfl, hx⟩
      obtain ⟨n, hn, rfl⟩ := map_get hx
      refine ⟨rfl, _, rfl, rfl, _, hdd, small ?_, same_put s4 hD, ?_⟩
      · rw [List.length_map, List.length_take]; omega
      · rw [upd_same, take_more hn, List.map_append]; rfl
    · rintro H3 ⟨s4, hdd⟩
      rw [List.length_map, take_all] at hdd
      have hd' : H3 D = some (.lst ((fm.l.map fun n => !decide (V.int n = V.int 0)).map V.bl)) := by rw [hdd, List.map_map]; rfl
      refine ⟨D, _, rfl, SqL.of hd', _, rfl, ?_⟩
      rw [any_nz (H := H)]
      have := k H3 (s1.trans s4)
      unfold oneF at this
      rw [decide_eq_true c1, Bool.true_and] at this
      rw [Bool.not_not]
      exact this
  · refine if_false_of (decide_eq_false (fun e => c1 (V.int.inj e))) ?_
    have := k H (Same.refl H)
    unfold oneF at this
    rw [decide_eq_false c1, Bool.false_and] at this
    exact this
end
end Kn
namespace Kn
open PySem PySem.Spec PyProof.Rows L2
open Vbktaa (Form)
theorem decimal_len {n : Nat} (h : n ≤ 9999) : (Vbktaa.decimal n).length ≤ 4 := by
  rw [decimal_eq, List.length_map]
  exact toDigits_small n h
theorem signsI_len {n : Int} (h : n.natAbs ≤ 9999) : (signsI n).length ≤ 5 := by
  rw [signsI_eq, signed_eq, List.length_append]
  have h1 := decimal_len h
  have h2 : (signT n true).length ≤ 1 := by
    unfold signT
    by_cases c : n < 0
    · rw [if_pos c]; exact Nat.le_refl _
    · rw [if_neg c]; exact Nat.zero_le _
  omega
theorem signs_str (n : Int) : (Str.ofString (toString n)).cps.toList = signsI n := by
  rw [signs_ofString]; rfl
theorem str_size {n : Int} (h : n.natAbs ≤ 9999) : (Str.ofString (toString n)).cps.size ≤ 1000 := by
  have h1 := signsI_len h
  rw [← signs_str, Array.length_toList] at h1
  omega
theorem log_small {n : Int} (h : n.natAbs ≤ 9999) : n.natAbs.log2 < 1920 := by
  by_cases z : n.natAbs = 0
  · rw [z]; decide
  · refine (Nat.log2_lt z).mpr ?_
    refine Nat.lt_of_le_of_lt h ?_
    exact Nat.lt_of_lt_of_le (by decide : 9999 < 2 ^ 14) (Nat.pow_le_pow_right (by decide) (by decide))
theorem showStep_len {found : List Nat} {x : Int × Nat} (h : x.1.natAbs ≤ 9999) : (showStep found x).length ≤ found.length + 6 := by
  unfold showStep
  by_cases c : x.1 = 0
  · rw [if_pos c]; omega
  · rw [if_neg c, List.length_append, List.length_append]
    have h1 := decimal_len h
    have h2 : ∀ b, (signT x.1 b).length ≤ 1 := by
      intro b
      unfold signT
      by_cases c : x.1 < 0
      · rw [if_pos c]; exact Nat.le_refl _
      · rw [if_neg c]
        cases b
        · exact Nat.le_refl _
        · exact Nat.zero_le _
    have h3 : (manyT x).length ≤ 5 := by
      unfold manyT
      rw [List.length_append, List.length_singleton]
      by_cases c : x.1.natAbs = 1
      · rw [if_pos c]; simp
      · rw [if_neg c]; omega
    have := h2 (decide (found = []))
    omega
theorem show_len : ∀ (xs : List (Int × Nat)) (found : List Nat), (∀ x ∈ xs, x.1.natAbs ≤ 9999) → (xs.foldl showStep found).length ≤ found.length + 6 * xs.length
  | [], found, _ => by simp
  | x :: r, found, h => by
    rw [List.foldl_cons, List.length_cons]
    have h1 := show_len r (showStep found x) fun y hy => h y (List.mem_cons_of_mem _ hy)
    have h2 := showStep_len (found := found) (h x List.mem_cons_self)
    omega
theorem headT_len {f : Form} (h : SmallF f) : (headT f).length ≤ 5 := by
  unfold headT
  by_cases c : f.c ≠ 0 ∨ ∀ a ∈ f.l, a = 0
  · rw [if_pos c]; exact signsI_len (h f.c List.mem_cons_self)
  · rw [if_neg c]; exact Nat.zero_le _
theorem pairs_small {f : Form} {ls : List Nat} (h : SmallF f) : ∀ x ∈ f.l.zip ls, x.1.natAbs ≤ 9999 := fun x hx =>
  h x.1 (List.mem_cons_of_mem _ (List.of_mem_zip (a := x.1) (b := x.2) hx).1)
theorem shownForm_len {f : Form} {ls : List Nat} (h : SmallF f) (hl : f.l.length = ls.length) : (Vbktaa.shownForm (lets ls) f).length ≤ 5 + 6 * ls.length := by
  rw [shownForm_eq ls f hl]
  have h1 := show_len (f.l.zip ls) (headT f) (pairs_small h)
  have h2 := headT_len h
  have h3 : (f.l.zip ls).length = ls.length := by rw [List.length_zip]; omega
  omega
section
variable {P : Program} {w : World} {K : PySem.W.Frag} {mg : Str → Option Value} {base : Heap}
/-! ### form_shown -/
def spFormShown (K : PySem.W.Frag) : Sp := fun vs H Q _ => ∃ (a l : Addr) (f : Form) (ls : List Nat), vs = [.ref a, .ref l] ∧ FormAt H a f ∧ SqL K H l (VT ls) ∧ f.l.length = ls.length ∧ ls.length ≤ 100 ∧ SmallF f ∧ New H (VT (Vbktaa.shownForm (lets ls) f)) Q
theorem sc_form_shown : FnScope ["form", "letters", "found", "many", "letter"] ["form", "letters"] (defScope s_form_shown) := ⟨rfl, rfl, rfl, by decide +kernel, rfl, by decide +kernel, by decide +kernel⟩
theorem ok_form_shown (T : Txt K mg) (D : Def K mg "form_shown" s_form_shown) (c_signs_of : Cal P w K mg base CX0 1 "signs_of" ["word"] spSigns) (c_signed : Cal P w K mg base CX0 1 "signed" ["number", "first"] spSigned) :
    Cal P w K mg base CX0 2 "form_shown" ["form", "letters"] (spFormShown K) := by
  have sc := sc_form_shown
  refine Cal.mk' D sc (fun _ _ _ _ _ _ us hl => match us, hl with | [_, _], _ => rfl) (fun vs H Q E h => ?_) (fun f cdv A outer s H vs Q E hr h => ?_)
  · obtain ⟨_, _, _, _, rfl, _⟩ := h; rfl
  obtain ⟨a, l, fm, ls, rfl, hF, hL, hl, hl2, hsm, k⟩ := h
  -- the loop over the letters
  obtain ⟨tr, hT, go⟩ : ∃ tr, PSs (cxOf CX0 P w K mg base ["form", "letters", "found", "many", "letter"] "form_shown" (defScope s_form_shown) f cdv A outer s H E).nox ((defBody s_form_shown).drop 2) tr ∧
      ∀ (H1 : Hp) (q : Addr) (v3 v4 : Option V), Same H H1 → H q = none → H1 q = some (.lst (VT (headT fm))) → tr { nx := fun x H' => Q V.non H', rt := Q } [some (.ref a), some (.ref l), some (.ref q), v3, v4] H1 := by
    refine ⟨_, (pss_cons (ps_for PassesOwn.never rfl (pi_zip (by rfl) T.f_zip (pa_cons (pe_slice sl_list (pv 0) (po_some pe_int) po_none) (pa_cons (pv 1) pa_nil))) (pg_tup rfl (pgs_cons (pg_name (i := 3) sc.nd rfl (Or.inl rfl)) (pgs_cons (pg_name (i := 4) sc.nd rfl (Or.inl rfl)) pgs_nil))) (pss_one (ps_if (pt_cmpR op_ne (pv 3) pe_int (nomark _)) (pss_cons (ps_set (i := 2) sc.nd rfl (Or.inl rfl) (pe_op op_cat (pv 2) (pe_f c_signed hr pass0 (pa_cons (pv 3) (pa_cons (pe_cmpR (op_eqT hr.units) (pv 2) (pe_lst pa_nil) (nomark _)) pa_nil)))))
      (pss_cons (ps_if (pt_cmpR op_gt (pe_callB call_abs (by rfl) T.f_abs (by decide +kernel) (pa_cons (pv 3) pa_nil)) pe_int (nomark _)) (pss_one (ps_set (i := 2) sc.nd rfl (Or.inl rfl) (pe_op op_cat (pv 2) (pe_f c_signs_of hr pass0 (pa_cons (pe_callTy call_str_int (by rfl) T.f_str (by decide +kernel) (pa_cons (pe_callB call_abs (by rfl) T.f_abs (by decide +kernel) (pa_cons (pv 3) pa_nil)) pa_nil)) pa_nil))))) pss_nil)
      (pss_one (ps_expr (pe_bm PySem.F.plainAttrs_list PySem.F.slot_list_append PySem.F.type_list_append mt_append (pv 2) (pa_cons (pv 4) pa_nil)))))) pss_nil)))
      (pss_one (ps_ret (pv 2)))), fun H1 q v3 v4 s1 hq hq1 => ?_⟩
    refine ⟨_, rfl, _, rfl, a, _, rfl, SqL.of (s1 _ _ hF), fun d hd => ?_⟩
    rw [fL_rest']
    have s2 : Same H1 (upd H1 d (.lst (fm.l.map V.int))) := same_new hd
    have nqd : q ≠ d := ne_some_none hq1 hd |>.symm
    refine ⟨_, rfl, d, l, _, _, rfl, SqL.of upd_same, s2.seq (s1.seq hL), for_it (walk_zip (n := fm.l.length) (by rw [List.length_map, VT_len]; omega))
      (fun i σ H' => ∃ (q : Addr) (v3 v4 : Option V), σ = [some (.ref a), some (.ref l), some (.ref q), v3, v4] ∧ Same H H' ∧ H q = none ∧ q ≠ d ∧ H' d = some (.lst (fm.l.map V.int)) ∧ H' q = some (.lst (VT (((fm.l.zip ls).take i).foldl showStep (headT fm)))))
      ⟨q, v3, v4, rfl, s1.trans s2, hq, nqd, upd_same, put_at hd hq1⟩ (fun i σ H' _ ⟨_, _, _, _, s3, _, _, q, _⟩ => ⟨SqL.of q, s3.seq hL⟩) ?_ ?_⟩
    · rintro i x σ H2 H3 hi ⟨q, v3, v4, rfl, s3, hq, nqd, hdd, hq2⟩ ⟨t, x1, x2, rfl, ht, rfl, hx1, hx2⟩
      obtain ⟨m, hm, rfl⟩ := map_get hx1
      obtain ⟨n, hn, rfl⟩ := VT_get hx2
      have hz : (fm.l.zip ls)[i]? = some (m, n) := by
        rw [List.getElem?_zip_eq_some]; exact ⟨hm, hn⟩
      have hmm : m.natAbs ≤ 9999 := hsm m (List.mem_cons_of_mem _ (List.mem_of_getElem? hm))
      have eN : ((fm.l.zip ls).take (i + 1)).foldl showStep (headT fm) = showStep (((fm.l.zip ls).take i).foldl showStep (headT fm)) (m, n) := by
        rw [take_more hz, List.foldl_append]; rfl
      have hbnd : (((fm.l.zip ls).take i).foldl showStep (headT fm)).length ≤ 700 := by
        have h1 := show_len ((fm.l.zip ls).take i) (headT fm) (fun x hx => pairs_small hsm x (List.mem_of_mem_take hx))
        have h2 := headT_len hsm
        have h3 : ((fm.l.zip ls).take i).length ≤ ls.length := by rw [List.length_take, List.length_zip]; omega
        omega
      rw [eN]
      generalize ((fm.l.zip ls).take i).foldl showStep (headT fm) = u at hq2 hbnd
      refine ⟨t, _, rfl, SqT.of upd_same, rfl, _, _, rfl, _, _, rfl, rfl, ?_⟩
      have s4 : Same H2 (upd H2 t (.tup [.int m, .int (n : Int)])) := same_new ht
      refine ⟨_, rfl, rfl, _, rfl, ?_⟩
      by_cases c1 : m = 0
      · refine if_false_of (by rw [decide_eq_true (by rw [c1])]; rfl) ⟨q, _, _, rfl, s3.trans s4, hq, nqd, s4 _ _ hdd, ?_⟩
        have e : showStep u (m, n) = u := if_pos c1
        rw [e]; exact s4 _ _ hq2
      · refine if_true_of (by rw [decide_eq_false (fun e => c1 (V.int.inj e))]; rfl) ?_
        have e : showStep u (m, n) = u ++ (signT m (decide (u = [])) ++ manyT (m, n)) := if_neg c1
        refine ⟨_, rfl, _, rfl, _, rfl, small' (by decide), fun e0 he0 => ⟨q, e0, u, [], rfl, rfl, SqL.of (put_at he0 (s4 _ _ hq2)), SqL.of upd_same, m, _, rfl, fun H4 r s5 hr0 hr4 => ?_⟩⟩
        have s6 := s4.trans ((same_new (o := HO.lst []) he0).trans s5)
        have l1 : (signT m (decide (u = []))).length ≤ 1 := by
          unfold signT
          by_cases c : m < 0
          · rw [if_pos c]; exact Nat.le_refl _
          · rw [if_neg c]
            cases (decide (u = []))
            · exact Nat.le_refl _
            · exact Nat.zero_le _
        refine ⟨q, r, _, _, rfl, rfl, s6 _ _ hq2, hr4, ?_, fun q2 hq2n => ?_⟩
        · rw [VT_len, VT_len]
          refine small' ?_
          show u.length + (signT m (decide (u = []))).length ≤ 16000000
          omega
        rw [← VT_app]
        have s7 := s6.trans (same_new (o := HO.lst (VT (u ++ signT m (if false = true then !decide (u = []) else decide (u = []))))) hq2n)
        have s8 := s3.trans s7
        have nq2d : q2 ≠ d := ne_some_none (s6 _ _ hdd) hq2n
        have hq2H : H q2 = none := s3.free (s6.free hq2n)
        refine ⟨_, rfl, _, rfl, _, _, rfl, rfl, _, rfl, ?_⟩
        have e' : showStep u (m, n) = (u ++ signT m (decide (u = []))) ++ ((if m.natAbs = 1 then [] else Vbktaa.decimal m.natAbs) ++ [n]) := by rw [e, List.append_assoc]; rfl
        have eabs : (if m < 0 then -m else m) = (m.natAbs : Int) := by
          by_cases z : m < 0
          · rw [if_pos z]; omega
          · rw [if_neg z]; omega
        by_cases c2 : m.natAbs = 1
        · refine if_false_of (decide_eq_false (by rw [eabs]; omega)) ?_
          refine ⟨_, rfl, .inl ⟨rfl, _, SqL.of upd_same⟩, _, rfl, q2, _, _, rfl, rfl, upd_same, ?_, q2, _, _, rfl, ?_, hq2H, nq2d, ?_, ?_⟩
          · rw [VT_len, List.length_append]
            refine small ?_
            show u.length + (signT m (decide (u = []))).length ≤ 16000000
            omega
          · exact same_put s8 hq2H
          · rw [upd_ne (Ne.symm nq2d)]; exact s7 _ _ hdd
          · rw [upd_same, e', if_pos c2, List.nil_append, VT_app (u ++ _)]; rfl
        · refine if_true_of (decide_eq_true (by rw [eabs]; omega)) ?_
          refine ⟨_, rfl, _, rfl, _, rfl, _, rfl, by rw [eabs, Int.natAbs_natCast]; exact log_small hmm, _, rfl, ?_, fun H5 r2 s9 hr9 hr5 => ?_⟩
          · rw [eabs]; exact str_size (by rw [Int.natAbs_natCast]; exact hmm)
          have eS : (Str.ofString (toString (if m < 0 then -m else m))).cps.toList = Vbktaa.decimal m.natAbs := by rw [signs_str, eabs]; rfl
          rw [eS] at hr5
          have l2 := decimal_len hmm
          refine ⟨q2, r2, _, _, rfl, rfl, s9 _ _ upd_same, hr5, ?_, fun q3 hq3 => ?_⟩
          · rw [VT_len, VT_len, List.length_append]
            refine small' ?_
            show u.length + (signT m (decide (u = []))).length + (Vbktaa.decimal m.natAbs).length ≤ 16000000
            omega
          rw [← VT_app]
          have s10 := s8.trans (s9.trans (same_new (o := HO.lst (VT (u ++ signT m (if false = true then !decide (u = []) else decide (u = [])) ++ Vbktaa.decimal m.natAbs))) hq3))
          have nq3d : q3 ≠ d := ne_some_none (s9 _ _ (s7 _ _ hdd)) hq3
          have hq3H : H q3 = none := s8.free (s9.free hq3)
          refine ⟨_, rfl, .inl ⟨rfl, _, SqL.of upd_same⟩, _, rfl, q3, _, _, rfl, rfl, upd_same, ?_, q3, _, _, rfl, same_put s10 hq3H, hq3H, nq3d, ?_, ?_⟩
          · rw [VT_len, List.length_append, List.length_append]
            refine small ?_
            show u.length + (signT m (decide (u = []))).length + (Vbktaa.decimal m.natAbs).length ≤ 16000000
            omega
          · rw [upd_ne (Ne.symm nq3d)]; exact put_at hq3 (s9 _ _ (s7 _ _ hdd))
          · rw [upd_same, e', if_neg c2, ← List.append_assoc, VT_app (_ ++ Vbktaa.decimal m.natAbs)]; rfl
    · rintro σ H2 ⟨q, v3, v4, rfl, s3, hq, nqd, hdd, hq2⟩
      have eA : (fm.l.zip ls).take fm.l.length = fm.l.zip ls := List.take_of_length_le (by rw [List.length_zip]; omega)
      rw [eA, ← shownForm_eq ls fm hl] at hq2
      exact ⟨_, rfl, k _ _ s3 hq hq2⟩
  refine ⟨_, PSs.nox (pss_cons (ps_set (i := 2) sc.nd rfl (Or.inl rfl) (pe_lst pa_nil))
    (pss_cons (ps_if (PW.pt (pw_or (pt_cmpR op_ne (pe_ix ix_list (pv 0) pe_int (fun _ _ => rfl)) pe_int (nomark _)) (pw_or1 (pt_not (pt_val (pe_callB (cr_any rfl) (by rfl) T.f_any (by decide +kernel) (pa_cons (pe_lc (own := [("many", 3)]) (g := gName 3) rfl sc.nd (pi_list (pe_slice sl_list (pv 0) (po_some pe_int) po_none)) (blkOk_by (N := ["form", "letters", "found", "many", "letter"]) (sc := defScope s_form_shown) (by decide +kernel)) (fun _ _ _ _ _ => (pg_name (i := 3) sc.nd rfl (Or.inl rfl))) (fun _ _ _ _ _ => pts_nil) (fun _ _ _ _ _ => (pe_cmpR op_ne (pv 3) pe_int (nomark _)))) pa_nil))))))) (pss_one (ps_set (i := 2) sc.nd rfl (Or.inl rfl) (pe_f c_signs_of hr pass0 (pa_cons (pe_callTy call_str_int (by rfl) T.f_str (by decide +kernel) (pa_cons (pe_ix ix_list (pv 0) pe_int (fun _ _ => rfl)) pa_nil)) pa_nil)))) pss_nil)
    hT)), ?_⟩
  refine ⟨small' (by decide), fun p0 hp0 => ?_⟩
  have s1 : Same H (upd H p0 (.lst [])) := same_new hp0
  -- the number is shown
  have numb : ∀ H1, Same (upd H p0 (.lst [])) H1 → headT fm = signsI fm.c → tAsg (tCall spSigns [] E0 (tCons (tCB (fun xs H Q => ∃ i, xs = [V.int i] ∧ i.natAbs.log2 < 1920 ∧ Q (.str (toString i)) H) (tCons (tOp (rIxL K) (tVar 0) (tC (.int 0))) tNil)) tNil)) (gName 2) { nx := tr { nx := fun x H' => Q V.non H', rt := Q }, rt := Q } [some (.ref a), some (.ref l), some (.ref p0), none, none] H1 := by
    intro H1 s2 eh
    have hc := hsm fm.c List.mem_cons_self
    refine ⟨_, rfl, a, _, _, _, rfl, rfl, SqL.of (s2 _ _ (s1 _ _ hF)), atI_nat (j := 0) (fL_zero fm), _, rfl, log_small hc, _, rfl, str_size hc, fun H2 q s3 hq hq2 => ?_⟩
    have s4 := s1.trans (s2.trans s3)
    refine go H2 q none none s4 (s1.free (s2.free hq)) ?_
    rw [hq2, eh]
    exact congrArg (fun z => some (HO.lst (VT z))) (signs_str fm.c)
  refine ⟨_, rfl, a, _, _, _, rfl, rfl, SqL.of (s1 _ _ hF), atI_nat (j := 0) (fL_zero fm), rfl, _, rfl, ?_⟩
  by_cases c1 : fm.c = 0
  · refine if_false_of (by show (!decide (V.int fm.c = V.int 0)) = false; rw [c1]; rfl) ?_
    refine ⟨_, rfl, _, rfl, a, _, rfl, SqL.of (s1 _ _ hF), fun d hd => ?_⟩
    rw [fL_rest']
    have s2 : Same (upd H p0 (.lst [])) (upd (upd H p0 (.lst [])) d (.lst (fm.l.map V.int))) := same_new hd
    refine ⟨d, rfl, ⟨_, SqL.of upd_same⟩, fun D hD => lc_it walk_list (fun i H' => Same (upd (upd H p0 (.lst [])) d (.lst (fm.l.map V.int))) H' ∧ H' D = some (.lst ((fm.l.take i).map fun n => V.bl (!decide (V.int n = V.int 0))))) ⟨same_new hD, upd_same⟩ (fun i H' _ q => SqL.of (q.1 _ _ upd_same)) ?_ ?_⟩
    · rintro i x H3 H4 hi ⟨s4, hdd⟩ ⟨rfl, hx⟩
      obtain ⟨n, hn, rfl⟩ := map_get hx
      refine ⟨rfl, _, rfl, rfl, _, hdd, small ?_, same_put s4 hD, ?_⟩
      · rw [List.length_map, List.length_take]; omega
      · rw [upd_same, take_more hn, List.map_append]; rfl
    · rintro H3 ⟨s4, hdd⟩
      rw [List.length_map, take_all] at hdd
      have hd' : H3 D = some (.lst ((fm.l.map fun n => !decide (V.int n = V.int 0)).map V.bl)) := by rw [hdd, List.map_map]; rfl
      refine ⟨D, _, rfl, SqL.of hd', _, rfl, ?_⟩
      cases cA : fm.l.all fun a => a == 0 with
      | true =>
        refine if_true_of (by show (!((fm.l.map fun n => !decide (V.int n = V.int 0)).any id)) = true; rw [any_nz (H := H), cA]; rfl) (numb H3 (s2.trans s4) ?_)
        exact if_pos (.inr fun x hx => by have := List.all_eq_true.mp cA x hx; exact beq_iff_eq.mp this)
      | false =>
        refine if_false_of (by show (!((fm.l.map fun n => !decide (V.int n = V.int 0)).any id)) = false; rw [any_nz (H := H), cA]; rfl) (go H3 p0 none none (s1.trans (s2.trans s4)) hp0 ?_)
        have eh : headT fm = [] := if_neg (by
          rintro (z | z)
          · exact z c1
          · have : (fm.l.all fun a => a == 0) = true := List.all_eq_true.mpr fun x hx => beq_iff_eq.mpr (z x hx)
            rw [cA] at this; cases this)
        rw [eh]
        exact (s2.trans s4) _ _ upd_same
  · refine if_true_of (by show (!decide (V.int fm.c = V.int 0)) = true; rw [decide_eq_false (fun e => c1 (V.int.inj e))]; rfl) (if_true_of rfl (numb _ (Same.refl _) (if_pos (.inl c1))))
end
end Kn
/-! ### own exception classes over Exception, with an __init__ of their own -/
namespace Kn
open PySem PySem.W PySem.Calls PyProof.Rows
open Builtin Builtin.ObjectAttr
section
variable {prog : Program} {w : World} {A : Around} {E : Value → Shared → Prop} {R : Result → Shared → Prop} {hp : Heap} {g : Array GenState} {d : Drawn} {t : Nat} {os : OsState} {K : Frag} {C : Addr}
/-- the class's datum, with its dict -/
theorem cls_of (ov : excOver K C excTl = true) (hh : hasDictIn K C = true) : ∃ cd, clsIn K C = some cd ∧ cd.hasDict = true := by
  obtain ⟨cd, hc, _⟩ := any_some ov
  refine ⟨cd, hc, ?_⟩
  unfold hasDictIn at hh
  rw [hc] at hh
  exact hh
/-- the first field of an exception -/
theorem osaE_new {name : Str} {tk : Tok} {v : Value} {x : Addr} {fv : Array Value} (X : K.In hp) (hx : hp.get? x = some { cls := .ref C, data := .fields fv }) (ov : excOver K C excTl = true) (hh : hasDictIn K C = true) (ha : findIn K (.ref C) name = some none)
    (hq : ∀ h' tk' dx, (∀ b o, b ≠ x → hp.get? b = some o → h'.get? b = some o) → hp.objs.size ≤ dx → dx ≠ x → h'.get? x = some { cls := .ref C, dict := some dx, data := .fields fv } →
      h'.Ns1 dx (fun y => if y = name then some v else none) → R (.ok (.ret .none)) ⟨h', g, d, tk', os⟩) :
    codeAny (model prog w) A (.call (.builtin "object.__setattr__") ⟨[.ref x, .str name tk, v], []⟩) R ⟨hp, g, d, t, os⟩ := by
  have tkr : takerIn K C name = some none := by unfold takerIn; rw [ha]; rfl
  obtain ⟨cd, hcd, hdd⟩ := cls_of ov hh
  have lcd : Looks (model prog w) hp (classData C) cd := looks_clsIn X hcd
  have away : x ≠ hp.objs.size := Nat.ne_of_lt (Heap.lt_size hx)
  refine osa_openX (s := ⟨hp, g, d, t, os⟩) (r := none) F.store_Exception X (od := none) ⟨hx, rfl, rfl, trivial⟩ ov tkr fun b => ?_
  obtain ⟨c1, c2, c3, c4, c5, c6, c7, c8, c9, c10, c11⟩ := cd
  dsimp only at hdd
  subst hdd
  show wpAny _ _ (storeInOwnDict (.ref x) (.ref C) (.str name tk) name v b) _ _ _
  unfold storeInOwnDict ownDictForStores
  repeat (first | with_reducible refine HandSPX.store_in_new ?_ ?_ | with_reducible refine wpAny_loadPart_at hx ?_ | with_reducible refine lcd.at ?_ | wp_step)
  · exact ⟨_, #[], _, (Heap.get?_update_ne _ _ _ _ away.symm).trans (Heap.get?_push_at rfl rfl), rfl, fun e he => absurd he (by simp), fun _ => rfl⟩
  · intro h' tk' hn' hs
    refine hq h' tk' hp.objs.size (fun b o hb ho => ?_) (Nat.le_refl _) away.symm ?_ hn'
    · refine (hs.2 b (Nat.ne_of_lt (Heap.lt_size ho))).trans ?_
      rw [Heap.get?_update_ne _ _ _ _ hb]
      exact Heap.get?_push_of_some _ ho
    · refine (hs.2 x away).trans (Heap.get?_update_self _ (Heap.get?_push_of_some _ hx) rfl)
/-- a further field -/
theorem osaE_old {name : Str} {tk : Tok} {v : Value} {x dx : Addr} {fv : Array Value} {m0 : Str → Option Value} {nl : List Str} (X : K.In hp) (hx : hp.get? x = some { cls := .ref C, dict := some dx, data := .fields fv }) (hns : hp.Ns1 dx m0) (hw : Within m0 nl) (hz : nl.length ≤ 1000)
    (ov : excOver K C excTl = true) (hh : hasDictIn K C = true) (ha : findIn K (.ref C) name = some none)
    (hq : ∀ h' tk', (∀ b o, b ≠ dx → hp.get? b = some o → h'.get? b = some o) → h'.Ns1 dx (fun y => if y = name then some v else m0 y) → R (.ok (.ret .none)) ⟨h', g, d, tk', os⟩) :
    codeAny (model prog w) A (.call (.builtin "object.__setattr__") ⟨[.ref x, .str name tk, v], []⟩) R ⟨hp, g, d, t, os⟩ := by
  have tkr : takerIn K C name = some none := by unfold takerIn; rw [ha]; rfl
  obtain ⟨cd, hcd, hdd⟩ := cls_of ov hh
  have lcd : Looks (model prog w) hp (classData C) cd := looks_clsIn X hcd
  obtain ⟨oD, esD, epD, hoD, hdD, _⟩ := hns.count hw
  refine osa_openX (s := ⟨hp, g, d, t, os⟩) (r := none) F.store_Exception X (od := some oD) ⟨hx, rfl, rfl, hoD⟩ ov tkr fun b => ?_
  obtain ⟨c1, c2, c3, c4, c5, c6, c7, c8, c9, c10, c11⟩ := cd
  dsimp only at hdd
  subst hdd
  show wpAny _ _ (storeInOwnDict (.ref x) (.ref C) (.str name tk) name v b) _ _ _
  unfold storeInOwnDict ownDictForStores
  repeat (first | with_reducible refine OEX.store_in_old hns hw hz ?_ | with_reducible refine wpAny_loadPart_at hx ?_ | with_reducible refine lcd.at ?_ | wp_step)
  intro h' tk' hn' hs
  exact hq h' tk' (fun b o hb ho => (hs.2 b hb).trans ho) hn'
end
end Kn

namespace Kn
open PySem PySem.Spec PyProof.Rows L2
section
variable {X : Cx} {pins : List (Addr × Obj)} {σ : L2.St} {H : Hp} {s : Shared} {a C fI dx : Addr} {f : Str} {y : V} {u : Value} {fs : List (Str × V)} {Q : Unit → Shared → Prop} {E : Value → Shared → Prop} {A : Around}
/-- self.f = y, the first field of an exception that is being made -/
theorem exs_new (T : ExcC X.K C fI) (hh : PySem.W.hasDictIn X.K C = true) (I : Inv X pins σ H s) (e : H a = some (exo a C none)) (hno : PySem.W.findIn X.K (.ref C) f = some none) (ry : RelV y u)
    (h : ∀ dx s', H dx = none → dx ≠ a → Inv X pins σ (upd (upd H dx (exd dx [(f, y)])) a (exo a C (some dx))) s' → Q () s') : wpAny (model X.prog X.w) A (setAttr (.ref a) f u) Q E s := by
  obtain ⟨t1, ho⟩ := exo_at I.hok e
  obtain ⟨hp, g, d, t, os⟩ := s
  refine PySem.W.set_plain I.kIn (ox := { cls := .ref C, dict := none, data := .fields #[.ref t1, .none, .none, .none, .bool false, .none] }) (od := none) ⟨ho, rfl, rfl, trivial⟩ T.sa ?_
  refine osaE_new I.kIn ho T.over hh hno fun h' tk' dx kept hn dne hx hns => ?_
  have fresh : H dx = none := I.hok.fresh hn
  have apart : ∀ {b : Addr} {o : Obj}, hp.get? b = some o → b ≠ dx := fun q => Nat.ne_of_lt (Nat.lt_of_lt_of_le (Heap.lt_size q) hn)
  have nota : ∀ {b : Addr}, H b = none → b ≠ a := fun n z => by rw [z, e] at n; cases n
  have un : Un X.fs [] H (upd (upd H dx (exd dx [(f, y)])) a (exo a C (some dx))) hp h' := by
    refine ⟨fun b o q n _ _ => kept b o (nota n) q, fun b o q n _ _ => ⟨o.slots, kept b o (nota n) q⟩, fun b o q n _ => ?_, fun b o q _ => ?_, fun b xs q => ?_, fun b o v q => ?_, fun b ps q => ⟨#[], ?_⟩⟩
    · rw [upd_ne (nota n), upd_ne (apart q)]; exact n
    · by_cases hb : b = a
      · exact ⟨_, hb ▸ hx⟩
      · exact ⟨o, kept b o hb q⟩
    · rw [upd_ne (at_ne e q exo_tup), upd_ne (ne_of_none q fresh)]; exact q
    · rw [upd_ne (at_ne e q exo_frz), upd_ne (ne_of_none q fresh)]; exact q
    · rw [upd_ne (at_ne e q exo_tbl), upd_ne (ne_of_none q fresh), q]; simp
  refine h dx _ fresh dne (I.un (t' := tk') un fun b o q => ?_)
  by_cases hb : b = a
  · rw [hb, upd_same] at q
    rw [hb, ← Option.some.inj q]
    exact exo_ok hx
  · rw [upd_ne hb] at q
    by_cases hd : b = dx
    · rw [hd, upd_same] at q
      rw [hd, ← Option.some.inj q]
      exact exd_ok hns (relO_put (fs := []) ry fun _ => True.intro)
    · rw [upd_ne hd] at q
      refine (I.hok b o q).stay (fun c v hc z => kept c v ?_ z) (fun c hc => ?_) fun c xs hc => ?_
      · rcases hc with hc | hc
        · rw [hc]; exact hb
        · exact at_ne e hc exo_own
      · rw [upd_ne (at_ne e hc exo_own), upd_ne (ne_of_none hc fresh)]; exact hc
      · rw [upd_ne (at_ne e hc exo_tup), upd_ne (ne_of_none hc fresh)]; exact hc
/-- self.f = y, a further one -/
theorem exs_old (T : ExcC X.K C fI) (hh : PySem.W.hasDictIn X.K C = true) (I : Inv X pins σ H s) (e : H a = some (exo a C (some dx))) (ed : H dx = some (exd dx fs)) (hl : fs.length ≤ 900) (hno : PySem.W.findIn X.K (.ref C) f = some none) (ry : RelV y u)
    (h : ∀ s', Inv X pins σ (upd H dx (exd dx ((f, y) :: fs))) s' → Q () s') : wpAny (model X.prog X.w) A (setAttr (.ref a) f u) Q E s := by
  obtain ⟨t1, ho⟩ := exo_at I.hok e
  obtain ⟨mA, hns, rel⟩ := exd_at I.hok ed
  have hw := within_of rel
  obtain ⟨hp, g, d, t, os⟩ := s
  obtain ⟨oD, _, _, hoD, _, _⟩ := hns.count hw
  refine PySem.W.set_plain I.kIn (ox := { cls := .ref C, dict := some dx, data := .fields #[.ref t1, .none, .none, .none, .bool false, .none] }) (od := some oD) ⟨ho, rfl, rfl, hoD⟩ T.sa ?_
  refine osaE_old I.kIn ho hns hw (by rw [List.length_map]; omega) T.over hh hno fun h' tk' kept hn => ?_
  have there : ∃ o, h'.get? dx = some o := by
    obtain ⟨o, _, _, e', _⟩ := hn
    exact ⟨o, e'⟩
  have mu : Mut (H dx) := by rw [ed]; exact True.intro
  exact h _ (I.write (t' := tk') (x := dx) (e := dx) (o := exd dx ((f, y) :: fs)) mu (.inl rfl) kept there (exd_ok hn (relO_put ry rel)))
end
/-- self.f = e of such an exception -/
def tExS (K : PySem.W.Frag) (f : Str) (to te : TE) : TS := fun D σ H => te σ H fun y H1 => to σ H1 fun x H2 => ∃ a C fI : Addr, x = .ref a ∧ ExcC K C fI ∧ PySem.W.hasDictIn K C = true ∧ PySem.W.findIn K (.ref C) f = some none ∧
  ((H2 a = some (exo a C none) ∧ ∀ dx, H2 dx = none → dx ≠ a → D.nx σ (upd (upd H2 dx (exd dx [(f, y)])) a (exo a C (some dx)))) ∨
    ∃ (dx : Addr) (fs : List (Str × V)), H2 a = some (exo a C (some dx)) ∧ H2 dx = some (exd dx fs) ∧ fs.length ≤ 900 ∧ D.nx σ (upd H2 dx (exd dx ((f, y) :: fs))))
section
variable {X : Cx} {o e : Expr} {es : List Expr} {to te : TE} {ta : TA} {f : Str} {p p' p1 p2 pos : Pos}
theorem ps_exs (ho : PE X o to) (he : PE X e te) (hs : swapsWith e (some (.Attribute o f p')) pos.line X.env = pure false := by rfl) : PS X (.Assign [.Attribute o f p'] e pos) (tExS X.K f to te) := by
  refine ⟨fun pins s σ H D I h => ?_⟩
  refine plainObj_wpAny_Assign_Attribute (thn (he.run pins s σ H _ I h) fun v s1 ⟨y, H1, I1, r1, q1⟩ => thn (ho.run pins s1 σ H1 _ I1 q1) fun u s2 ⟨x, H2, I2, r2, a, C, fI, ex, T, hh, hno, q⟩ => ?_) hs
  subst ex
  obtain rfl : u = Value.ref a := r2
  rcases q with ⟨ea, q⟩ | ⟨dx, fs, ea, ed, hl, q⟩
  · exact exs_new T hh I2 ea hno r1 fun dx s' n ne J => ⟨σ, _, J, q dx n ne⟩
  · exact exs_old T hh I2 ea ed hl hno r1 fun s' J => ⟨σ, _, J, q⟩
/-- C(e, ..), where C's own __init__ keeps sp -/
theorem pmk_exs {CX : CXT} {x : Str} {C fI : Addr} {k j : Nat} {fd : FuncData} {ps : List Str} {sp : Sp} (T : ExcC X.K C fI) (F1 : FnOk X.prog X.w X.K X.mg X.base CX k fI fd ps sp) (hr : Room j X.A) (hb : Binds X.K fd ps []) (hx : Passes CX X (fun _ _ _ => False)) (hm : X.mg x = some (.ref C)) (ha : PA X (e :: es) ta)
    (hk : k + 1 ≤ j := by decide) (hg : Gl X x := by rfl) (hdb : (x == ("__debug__" : Str)) = false := by decide) (he : starEach (e :: es) X.env = (false, eval e X.env) :: starEach es X.env := by rfl) (hpl : (backTo pos (starEach es X.env)).any (·.1) = false := by rfl) :
    PMk X (.Call (.Name x p) (e :: es) [] pos) (tMkO C sp [] ta) := by
  intro pins s σ H Q I h
  obtain ⟨nm, N, qn, bs, bm, hdct, sn, sub, ab, col, dd, k0, k1, k2, k3, k5, hC, hT⟩ := PySem.W.excInit_of I.ok.mod.kin T.init
  refine wpAny_Call_Name_kw (ld_glob I hg hm ?_ hdb)
  refine PySem.W.callWith_K (h₀ := X.base) I.ok.mod.kin T.kp (thn (ha.run pos pins s σ H _ I h) fun us s1 ⟨vs, H1, I1, r1, hz, q1⟩ => ⟨I1.kIn, ?_⟩) he hpl
  show wpAny _ _ (call (.ref C) us) _ _ _
  obtain ⟨hp, g, dr, tk, os⟩ := s1
  have up : hp.objs.size ≤ hp.objs.size + 1 := Nat.le_succ _
  have hq := q1 (hp.objs.size + 1) (I1.hok.fresh up)
  have kept : ∀ b o, hp.get? b = some o → ((hp.push (PySem.W.kdv_tup us)).push (PySem.HandSPX.excO C hp.objs.size)).get? b = some o := fun b o e => Heap.get?_push_of_some _ (Heap.get?_push_of_some _ e)
  have made : ((hp.push (PySem.W.kdv_tup us)).push (PySem.HandSPX.excO C hp.objs.size)).get? (hp.objs.size + 1) = some (PySem.HandSPX.excO C hp.objs.size) := by heap_get
  have I2 : Inv X pins σ (upd H1 (hp.objs.size + 1) (exo (hp.objs.size + 1) C none)) ⟨(hp.push (PySem.W.kdv_tup us)).push (PySem.HandSPX.excO C hp.objs.size), g, dr, tk, os⟩ :=
    I1.laid (t' := tk) (a := hp.objs.size + 1) (o := exo (hp.objs.size + 1) C none) (h' := (hp.push (PySem.W.kdv_tup us)).push (PySem.HandSPX.excO C hp.objs.size)) kept up (exo_ok made)
  have r2 : Vals (V.ref (hp.objs.size + 1) :: (vs ++ [])) (Value.ref (hp.objs.size + 1) :: (us ++ [])) := .cons rfl (r1.append .nil)
  have hl : (Value.ref (hp.objs.size + 1) :: us ++ []).length = ps.length := by
    have e := r2.length
    rw [F1.len _ _ _ _ hq] at e
    exact e.symm
  have hus : us.length ≤ sizeLine := by
    rw [← Paired.length r1, sizeLine_eq]
    omega
  have kinC : hp.get? C = some (excClassObj nm qn C N bs bm hdct sn sub ab col dd k0 k1 k2 k3 k5 "Exception.__new__") := I1.bk _ _ hC
  refine wpAny_call (PySem.HandSPX.call_own F.excBase_Exception hT kinC (PySem.W.looks_findIn I1.kIn T.iC) (fun self => PySem.W.bind_fn I1.kIn self T.tI) hus
    (codeAny_mono (F1.run _ X.stack _ _ ⟨Value.ref (hp.objs.size + 1) :: us, []⟩ (Value.ref (hp.objs.size + 1) :: (us ++ [])) _ _ (fun _ _ _ => False) ((hr.mono hk).make C us []) (I2.env0.make C us []) (by have z := hb _ (Value.ref (hp.objs.size + 1) :: us) I2.kIn hl; rwa [List.cons_append] at z) r2 hq) fun r s' hq' => ?_))
  cases r with
  | error er => exact hx pins σ _ _ er s' I2 hq'
  | ok fl =>
    cases fl with
    | ret u =>
      obtain ⟨v, H2, os2, bare2, un2, hok2, rv, ev, d, fs, ea, ed, hd1, q2⟩ := hq'
      subst ev
      obtain ⟨h2, g2, d2, t2, os'⟩ := s'
      exact ⟨rv, mk_end (raises_own T.exC T.tyC) I1 up kept un2 hok2 os2 bare2 ea ed hd1 q2⟩
    | next => exact False.elim hq'
    | brk => exact False.elim hq'
    | cont => exact False.elim hq'
end
end Kn
namespace Kn
open PySem PySem.Spec PyProof.Rows L2
/-- a method of a class of the top -/
def DefM (K : PySem.W.Frag) (C : Addr) (m qual : Str) (st : Stmt) : Prop := ∃ fd, FunD K m qual (defArgs st) (defBody st) (defScope st) [] [] (He.ma K C m) fd
/-- a method that keeps its promise -/
def CalM (P : Program) (w : World) (K : PySem.W.Frag) (mg : Str → Option Value) (base : Heap) (CX : CXT) (k : Nat) (f : Addr) (ps : List Str) (sp : Sp) : Prop := ∃ fd, FnOk P w K mg base CX k f fd ps sp ∧ Binds K fd ps []
section
variable {P : Program} {w : World} {K : PySem.W.Frag} {mg : Str → Option Value} {base : Heap} {CX : CXT} {C : Addr} {m qual : Str} {st : Stmt} {N ps : List Str} {k : Nat} {sp : Sp}
theorem CalM.mk' (D : DefM K C m qual st) (S : FnScope N ps (defScope st)) (hb : ∀ (kV doc pm : Value) (an : Option Addr) (cdv ct : Value) (us : List Value), us.length = ps.length → bindArgs (PySem.W.fnOf m qual (defArgs st) (defBody st) (defScope st) .none kV doc pm an cdv ct) ⟨us, []⟩ = pure (ps.zip us))
    (len : ∀ vs H Q E, sp vs H Q E → vs.length = ps.length)
    (hbody : ∀ (cdv : Value) (A : Around) (outer : List Env) (s : Shared) (H : Hp) (vs : List V) (Q : VK) (E : XK), Room k (A.deeper (envOfC qual (defScope st) s.heap.objs.size (He.ma K C m) cdv)) → sp vs H Q E →
      ∃ t, PSs (cxOf CX P w K mg base N qual (defScope st) (He.ma K C m) cdv A outer s H E) (defBody st) t ∧ t { nx := fun _ H' => Q .non H', rt := Q } (start N vs) H) : CalM P w K mg base CX (k + 1) (He.ma K C m) ps sp := by
  obtain ⟨fd, F⟩ := D
  exact ⟨fd, FunD.ok F S len fun cdv A outer s H vs Q E hr h => hbody cdv A outer s H vs Q E hr h, F.bindsN hb⟩
/-! ### Wrong, Gone: made and raised -/
def spWrongInit (K : PySem.W.Frag) : Sp := fun vs H Q _ => ∃ (a : Addr) (l y : V), vs = [.ref a, l, y] ∧ H a = some (exo a (He.ga K "Wrong") none) ∧ ∀ d, H d = none → d ≠ a → Q .non (upd (upd (upd H d (exd d [("line", l)])) a (exo a (He.ga K "Wrong") (some d))) d (exd d [("why", y), ("line", l)]))
theorem sc_Wrong_init : FnScope ["self", "line", "why"] ["self", "line", "why"] (defScope s_Wrong_init) := ⟨rfl, rfl, rfl, by decide +kernel, rfl, by decide +kernel, by decide +kernel⟩
theorem ok_Wrong_init (T : Txt K mg) (D : DefM K (He.ga K "Wrong") "__init__" "Wrong.__init__" s_Wrong_init) : CalM P w K mg base CX0 1 (He.ma K (He.ga K "Wrong") "__init__") ["self", "line", "why"] (spWrongInit K) := by
  have sc := sc_Wrong_init
  refine CalM.mk' D sc (fun _ _ _ _ _ _ us hl => match us, hl with | [_, _, _], _ => rfl) (fun vs H Q E h => ?_) (fun cdv A outer s H vs Q E hr h => ?_)
  · obtain ⟨_, _, _, rfl, _⟩ := h; rfl
  obtain ⟨a, l, y, rfl, ha, k⟩ := h
  refine ⟨_, PSs.nox (pss_cons (ps_exs (pv 0) (pv 1)) (pss_one (ps_exs (pv 0) (pv 2)))), ?_⟩
  refine ⟨_, rfl, _, rfl, a, _, _, rfl, T.xWrong, T.xfWrong.hdC, T.nWrong_line, .inl ⟨ha, fun d hd nd => ?_⟩⟩
  refine ⟨_, rfl, _, rfl, a, _, _, rfl, T.xWrong, T.xfWrong.hdC, T.nWrong_why, .inr ⟨d, _, upd_same, ?_, by show 1 ≤ 900; decide, k d hd nd⟩⟩
  rw [upd_ne nd]; exact upd_same
def spGoneInit (K : PySem.W.Frag) : Sp := fun vs H Q _ => ∃ (a : Addr) (y : V), vs = [.ref a, y] ∧ H a = some (exo a (He.ga K "Gone") none) ∧ ∀ d, H d = none → d ≠ a → Q .non (upd (upd H d (exd d [("why", y)])) a (exo a (He.ga K "Gone") (some d)))
theorem sc_Gone_init : FnScope ["self", "why"] ["self", "why"] (defScope s_Gone_init) := ⟨rfl, rfl, rfl, by decide +kernel, rfl, by decide +kernel, by decide +kernel⟩
theorem ok_Gone_init (T : Txt K mg) (D : DefM K (He.ga K "Gone") "__init__" "Gone.__init__" s_Gone_init) : CalM P w K mg base CX0 1 (He.ma K (He.ga K "Gone") "__init__") ["self", "why"] (spGoneInit K) := by
  have sc := sc_Gone_init
  refine CalM.mk' D sc (fun _ _ _ _ _ _ us hl => match us, hl with | [_, _], _ => rfl) (fun vs H Q E h => ?_) (fun cdv A outer s H vs Q E hr h => ?_)
  · obtain ⟨_, _, rfl, _⟩ := h; rfl
  obtain ⟨a, y, rfl, ha, k⟩ := h
  refine ⟨_, PSs.nox (pss_one (ps_exs (pv 0) (pv 1))), ?_⟩
  exact ⟨_, rfl, _, rfl, a, _, _, rfl, T.xGone, T.xfGone.hdC, T.nGone_why, .inl ⟨ha, fun d hd nd => k d hd nd⟩⟩
end
theorem PMk.mono {X : Cx} {e : Expr} {t t' : L2.St → Hp → XK → Prop} (h : PMk X e t) (m : ∀ σ H Q, t' σ H Q → t σ H Q) : PMk X e t' := fun pins s σ H Q I q => h pins s σ H Q I (m σ H Q q)
/-- an error of Wrong: its fields -/
def wrongF (l y : V) : List (Str × V) := [("why", y), ("line", l)]
def goneF (y : V) : List (Str × V) := [("why", y)]
def tWrong (K : PySem.W.Frag) (ta : TA) : L2.St → Hp → XK → Prop := fun σ H Q => ta σ H fun vs H1 => ∃ l y, vs = [l, y] ∧ ∀ d, H1 d = none → Q (.ref (He.ga K "Wrong")) (some d) (upd H1 d (.xd (wrongF l y)))
def tGone (K : PySem.W.Frag) (ta : TA) : L2.St → Hp → XK → Prop := fun σ H Q => ta σ H fun vs H1 => ∃ y, vs = [y] ∧ ∀ d, H1 d = none → Q (.ref (He.ga K "Gone")) (some d) (upd H1 d (.xd (goneF y)))
/-- what raises Wrong asks -/
structure RaiW (P : Program) (w : World) (K : PySem.W.Frag) (mg : Str → Option Value) (base : Heap) : Prop where
  i : CalM P w K mg base CX0 1 (He.ma K (He.ga K "Wrong") "__init__") ["self", "line", "why"] (spWrongInit K)
  x : ExcC K (He.ga K "Wrong") (He.ma K (He.ga K "Wrong") "__init__")
  g : mg "Wrong" = some (.ref (He.ga K "Wrong"))
structure RaiG (P : Program) (w : World) (K : PySem.W.Frag) (mg : Str → Option Value) (base : Heap) : Prop where
  i : CalM P w K mg base CX0 1 (He.ma K (He.ga K "Gone") "__init__") ["self", "why"] (spGoneInit K)
  x : ExcC K (He.ga K "Gone") (He.ma K (He.ga K "Gone") "__init__")
  g : mg "Gone" = some (.ref (He.ga K "Gone"))
/-- reading on: a argument list is monotone -/
def MonoA (t : TA) : Prop := ∀ σ H (Q Q' : List V → Hp → Prop), (∀ vs H', Q vs H' → Q' vs H') → t σ H Q → t σ H Q'
section
variable {X : Cx} {e : Expr} {es : List Expr} {ta : TA} {p pos : Pos} {j : Nat}
theorem upd_del {H : Hp} {a d : Addr} {o : HO} {H2 : Hp} (ha : H a = none) (nd : d ≠ a) (h : ∀ b, b ≠ a → b ≠ d → H2 b = H b) : upd (del H2 a) d o = upd H d o := by
  funext b
  by_cases hb : b = d
  · rw [hb, upd_same, upd_same]
  · rw [upd_ne hb, upd_ne hb]
    by_cases hba : b = a
    · rw [hba, del_same, ha]
    · rw [del_ne hba, h b hba hb]
theorem pmk_Wrong (R : RaiW X.prog X.w X.K X.mg X.base) (hr : Room j X.A) (mo : MonoA ta) (ha : PA X (e :: es) ta) (hk : 2 ≤ j := by decide) (hg : Gl X "Wrong" := by rfl)
    (he : starEach (e :: es) X.env = (false, eval e X.env) :: starEach es X.env := by rfl) (hpl : (backTo pos (starEach es X.env)).any (·.1) = false := by rfl) : PMk X (.Call (.Name "Wrong" p) (e :: es) [] pos) (tWrong X.K ta) := by
  obtain ⟨fd, F, hb⟩ := R.i
  refine PMk.mono (pmk_exs R.x F hr hb (fun _ _ _ _ _ _ _ h => h.elim) R.g ha hk hg (by decide) he hpl) fun σ H Q h => mo σ H _ _ (fun vs H1 q => ?_) h
  obtain ⟨l, y, rfl, q⟩ := q
  refine ⟨by show 2 ≤ 1000; decide, fun a ha => ⟨a, l, y, rfl, upd_same, fun d hd nd => ⟨rfl, d, wrongF l y, ?_, upd_same, ?_, ?_⟩⟩⟩
  · rw [upd_ne (Ne.symm nd)]; exact upd_same
  · rw [upd_ne nd] at hd; exact hd
  · have hd1 : H1 d = none := by rw [upd_ne nd] at hd; exact hd
    have z := q d hd1
    rw [upd_del ha nd fun b h1 h2 => by rw [upd_ne h2, upd_ne h1, upd_ne h2, upd_ne h1]]
    exact z
theorem pmk_Gone (R : RaiG X.prog X.w X.K X.mg X.base) (hr : Room j X.A) (mo : MonoA ta) (ha : PA X (e :: es) ta) (hk : 2 ≤ j := by decide) (hg : Gl X "Gone" := by rfl)
    (he : starEach (e :: es) X.env = (false, eval e X.env) :: starEach es X.env := by rfl) (hpl : (backTo pos (starEach es X.env)).any (·.1) = false := by rfl) : PMk X (.Call (.Name "Gone" p) (e :: es) [] pos) (tGone X.K ta) := by
  obtain ⟨fd, F, hb⟩ := R.i
  refine PMk.mono (pmk_exs R.x F hr hb (fun _ _ _ _ _ _ _ h => h.elim) R.g ha hk hg (by decide) he hpl) fun σ H Q h => mo σ H _ _ (fun vs H1 q => ?_) h
  obtain ⟨y, rfl, q⟩ := q
  refine ⟨by show 1 ≤ 1000; decide, fun a ha => ⟨a, y, rfl, upd_same, fun d hd nd => ⟨rfl, d, goneF y, upd_same, ?_, ?_, ?_⟩⟩⟩
  · rw [upd_ne nd, upd_same]; rfl
  · rw [upd_ne nd] at hd; exact hd
  · have hd1 : H1 d = none := by rw [upd_ne nd] at hd; exact hd
    have z := q d hd1
    rw [upd_del ha nd fun b h1 h2 => by rw [upd_ne h1, upd_ne h2, upd_ne h1]]
    exact z
end
theorem mono_nil : MonoA tNil := fun _ _ _ _ h q => h _ _ q
def MonoE (t : TE) : Prop := ∀ σ H (Q Q' : VK), (∀ v H', Q v H' → Q' v H') → t σ H Q → t σ H Q'
theorem mono_cons {te : TE} {t : TA} (h1 : MonoE te) (h2 : MonoA t) : MonoA (tCons te t) := fun σ H _ _ h q => h1 σ H _ _ (fun _ _ q1 => h2 _ _ _ _ (fun _ _ q2 => h _ _ q2) q1) q
theorem mono_c {v : V} : MonoE (tC v) := fun _ _ _ _ h q => h _ _ q
theorem mono_var {i : Nat} : MonoE (tVar i) := fun _ _ _ _ h ⟨v, e, q⟩ => ⟨v, e, h _ _ q⟩
theorem mono_op0 {g : Int → Int → V} {ta tb : TE} (h1 : MonoE ta) (h2 : MonoE tb) : MonoE (tOp (rI0 g) ta tb) := fun σ H _ _ h q => h1 σ H _ _ (fun _ _ q1 => h2 _ _ _ _ (fun _ _ ⟨i, j, e1, e2, q2⟩ => ⟨i, j, e1, e2, h _ _ q2⟩) q1) q
theorem mono_len {K : PySem.W.Frag} {ta : TA} (h1 : MonoA ta) : MonoE (tCB (fun xs H Q => ∃ p ys, xs = [V.ref p] ∧ (SqL K H p ys ∨ SqT K H p ys) ∧ Q (V.int ys.length) H) ta) := fun σ H _ _ h q => h1 σ H _ _ (fun _ _ ⟨p, ys, e, s, q1⟩ => ⟨p, ys, e, s, h _ _ q1⟩) q
theorem mono_ixT {K : PySem.W.Frag} {ta tb : TE} (h1 : MonoE ta) (h2 : MonoE tb) : MonoE (tOp (rIxT K) ta tb) := fun σ H _ _ h q => h1 σ H _ _ (fun _ _ q1 => h2 _ _ _ _ (fun _ _ ⟨p, xs, i, v, e1, e2, e3, e4, q2⟩ => ⟨p, xs, i, v, e1, e2, e3, e4, h _ _ q2⟩) q1) q
/-- what is asked of a way out by an error of Wrong -/
def Errs (K : PySem.W.Frag) (F : Hp) (E : XK) (l y : Int) : Prop := ∀ (d : Addr) (H' : Hp), Same F H' → H' d = some (.xd (wrongF (.int l) (.int y))) → E (.ref (He.ga K "Wrong")) (some d) H'
theorem Errs.at_ {K : PySem.W.Frag} {F H : Hp} {E : XK} {l y : Int} (h : Errs K F E l y) (s : Same F H) : ∀ d, H d = none → E (.ref (He.ga K "Wrong")) (some d) (upd H d (.xd (wrongF (.int l) (.int y)))) := fun d hd => h d _ (same_put s (s.free hd)) upd_same
theorem Errs.mono {K : PySem.W.Frag} {F G : Hp} {E : XK} {l y : Int} (h : Errs K F E l y) (s : Same F G) : Errs K G E l y := fun d H' s2 e => h d H' (s.trans s2) e
def Goes (K : PySem.W.Frag) (F : Hp) (E : XK) (y : Int) : Prop := ∀ (d : Addr) (H' : Hp), Same F H' → H' d = some (.xd (goneF (.int y))) → E (.ref (He.ga K "Gone")) (some d) H'
end Kn
/-! ### enumerate over a tuple -/
namespace Kn
open PySem
open Sem (wp)
open AutoSeq1 (wpAny_loadPart')
theorem meets_enumT (l : Addr) (items : Array Value) (n : Nat) (dct : Option Addr) (sl : Array (Option Value)) :
    Meets (Builtin.«enumerate.__new__» ⟨[.type "enumerate", .ref l], []⟩) (fun _ R s => s.heap.get? l = some { cls := .type "tuple", dict := dct, data := .seq items n, slots := sl } ∧
      R (.ok (.ret (.ref (s.heap.push { cls := .type "tuple_iterator", data := .fields #[.ref l, .int 0 0] }).objs.size)))
        { s with heap := (s.heap.push { cls := .type "tuple_iterator", data := .fields #[.ref l, .int 0 0] }).push { cls := .type "enumerate", data := .fields #[.none, .bool false, .ref s.heap.objs.size, rawInt 0, .none, .none] } }) :=
  .of_wp fun prog w A R s h => by
    obtain ⟨hp, g, d, tk, os⟩ := s; obtain ⟨hl, h⟩ := h
    have hsub := sub_enumerate
    have hL : Heap.IsTuple (Shared.heap ⟨hp, g, d, tk, os⟩) l items := ⟨_, hl, rfl, n, rfl⟩
    wp_walk using wpAny_loadPart' hl
    refine wpAny_stack_any fun st => wpAny_pure ?_
    split
    · rename_i c _ _ _ _ _
      cases (c == Value.type "enumerate")
      · wp_walk using wpAny_loadPart' hl, wpAny_pyIter_tuple hL
        exact ⟨_, rfl, h⟩
      · wp_walk using wpAny_loadPart' hl, wpAny_pyIter_tuple hL
        exact ⟨_, rfl, h⟩
    · wp_walk using wpAny_loadPart' hl, wpAny_pyIter_tuple hL
      exact ⟨_, rfl, h⟩
theorem call_enumerate_tuple {prog : Program} {w : World} {A : Around} {E : Value → Shared → Prop} {s : Shared} {l : Addr} {items : Array Value} {Q : Value → Shared → Prop} (hL : s.heap.IsTuple l items)
    (h : ∀ h', IsEnum h' (s.heap.objs.size + 1) s.heap.objs.size 0 .none → h'.IsTupleIter s.heap.objs.size l 0 → h'.objs.size = s.heap.objs.size + 2 →
      (∀ b o, s.heap.get? b = some o → h'.get? b = some o) → Q (.ref (s.heap.objs.size + 1)) { s with heap := h' }) :
    wpAny (model prog w) A (call (.type "enumerate") [.ref l]) Q E s := by
  obtain ⟨⟨c, dct, dt, sl⟩, hl, hc, n, hd⟩ := hL
  replace hc : c = .type "tuple" := hc
  replace hd : dt = .seq items n := hd
  subst hc hd
  refine callType_new F.called_enumerate (by decide) (F.typeCall_enumerate_1 _) (F.newCall_enumerate_1 _) (fun obj => F.args_object_init_2 obj _) F.entry_enumerate_new
    (meets_enumT l items n dct sl) ⟨hl, ?_⟩
  have hz : (s.heap.push { cls := .type "tuple_iterator", data := .fields #[.ref l, .int 0 0] }).objs.size = s.heap.objs.size + 1 := Heap.size_push ..
  show _ ∧ _
  rw [hz]
  have he : IsEnum ((s.heap.push { cls := .type "tuple_iterator", data := .fields #[.ref l, .int 0 0] }).push
      { cls := .type "enumerate", data := .fields #[.none, .bool false, .ref s.heap.objs.size, rawInt 0, .none, .none] }) (s.heap.objs.size + 1) s.heap.objs.size 0 .none := by
    have := Heap.get?_push_size (s.heap.push { cls := .type "tuple_iterator", data := .fields #[.ref l, .int 0 0] })
      (o := { cls := .type "enumerate", data := .fields #[.none, .bool false, .ref s.heap.objs.size, rawInt 0, .none, .none] }) rfl
    rw [hz] at this; exact this
  refine ⟨⟨_, he, rfl⟩, h _ he ⟨_, Heap.get?_push_of_some _ (Heap.get?_push_size _ rfl), rfl, rfl⟩ (by rw [Heap.size_push, hz]) fun b o x => Heap.get?_push_of_some _ (Heap.get?_push_of_some _ x)⟩
end Kn
namespace Kn
open PySem PySem.Spec PyProof.Rows L2
/-- the tuple at a, each item in a new pair -/
def IteT (K : PySem.W.Frag) (a : Addr) : It :=
  ⟨fun i H => ∃ (xs : List V) (x : V), SqT K H a xs ∧ xs[i]? = some x, fun i H v H' => ∃ T x, v = .ref T ∧ H T = none ∧ H' = upd H T (.tup [.int (i : Nat), x]) ∧ ∀ xs, SqT K H a xs → xs[i]? = some x, fun i H => ∃ xs : List V, SqT K H a xs ∧ xs.length = i⟩
theorem turn_enumT {P : Program} {w : World} {K : PySem.W.Frag} {elts : List Expr} {kk : Nat} {tpos : Pos} (a e it : Addr) :
    Turn P w K (.Tuple elts kk tpos) (IteT K a) [e, it] e (fun i h => (∃ old, IsEnum h e it ((i : Nat) : Int) old) ∧ h.IsTupleIter it a i ∧ e ≠ it) where
  mem := by simp
  obj := fun i h st b hb => by
    obtain ⟨⟨old, he⟩, ⟨o, ho, hc, hd⟩, _⟩ := st
    have e' : b = e ∨ b = it := by simpa using hb
    rcases e' with z | z
    · rw [z]; exact ⟨_, he, fun v q => nomatch q⟩
    · rw [z]; exact ⟨o, ho, fun v q => by rw [hd] at q; cases q⟩
  keep := fun i h h' st k => let ⟨⟨old, he⟩, hi, hne⟩ := st; ⟨⟨old, k e (by simp) _ he⟩, hi.at fun o q => k it (by simp) o q, hne⟩
  item := by
    intro X hP hw hK hc i pins s σ H E I hf st hg
    subst hP hw hK
    obtain ⟨⟨old, he⟩, hit, hne⟩ := st
    obtain ⟨xs, x, hq, hx⟩ := hg
    obtain ⟨its, rv, p, hz⟩ := I.tuple hq
    obtain ⟨u, hu, ru⟩ := rv.get hx
    have hel : e < s.heap.objs.size := Heap.lt_size he
    have hil : it < s.heap.objs.size := by obtain ⟨_, q, _⟩ := hit; exact Heap.lt_size q
    have p' : s.heap.IsTuple a its.toArray := p
    have hai : a ≠ it := fun z => by
      obtain ⟨o1, q1, c1, _⟩ := p'
      obtain ⟨o2, q2, c2, _⟩ := hit
      rw [z, q2] at q1; cases q1; rw [c2] at c1; exact absurd c1 (by decide)
    have hea : e ≠ a := fun z => by
      obtain ⟨o1, q1, c1, _⟩ := p'
      rw [← z, he] at q1; cases q1
      have c2 : Value.type "enumerate" = Value.type "tuple" := c1
      exact absurd c2 (by decide)
    have hlt : i < its.toArray.size := by
      have := (List.getElem?_eq_some_iff.mp hu).1
      simpa using this
    refine wpAny_pyNext_enum_itemD (Draws.tuple (prog := X.prog) (w := X.w) (A := X.A.in1) (I.ok.hd hc) it a hai its.toArray) he ⟨hit, p'⟩ hlt hne (by simp [hne, hea]) fun y h' tk hP ho hs' hT hsz hk => ?_
    have ey : y = u := by
      have z : its.toArray[i]? = some y := hP
      have z2 : its[i]? = some y := by simpa using z
      rw [hu] at z2; exact (Option.some.inj z2).symm
    subst ey
    obtain ⟨hit', _⟩ := hs'
    refine ⟨_, rfl, wpAny_letOwnedTupleGo_enum (s := { s with heap := h', toks := tk + 1 }) ho fun h'' he' sb => ?_⟩
    have hT2 : h''.get? s.heap.objs.size = some { cls := .type "tuple", data := .seq #[.int i tk, y] } := (sb.2 _ (Nat.ne_of_gt hel)).trans hT
    have new : ObjOk X.prog X.w (upd H s.heap.objs.size (.tup [.int (i : Nat), x])) h'' s.heap.objs.size (.tup [.int (i : Nat), x]) :=
      ⟨by show 2 ≤ sizeLine; decide, [.int i tk, y], .cons ⟨_, rfl⟩ (.cons ru .nil), ⟨_, hT2, rfl, _, rfl⟩⟩
    have I1 : Inv X pins σ (upd H s.heap.objs.size (.tup [.int (i : Nat), x])) { s with heap := h'', toks := tk + 1 } :=
      I.turnedNew (ch := [e, it]) (fun b ob hb q => (sb.2 b (fun z => hb (by simp [z]))).trans (hk b ob (fun z => hb (by simp [z])) (fun z => hb (by simp [z])) q)) hf (Nat.le_refl _) new
    refine ⟨.ref s.heap.objs.size, _, I1, rfl, ⟨_, x, rfl, I.hok.fresh (Nat.le_refl _), rfl, fun ys hy => by rw [I.tuple_inj hy hq]; exact hx⟩, ⟨⟨y, ?_⟩, hit'.at fun o q => (sb.2 it (Ne.symm hne)).trans q, hne⟩, fun b hb => ?_⟩
    · have e1 : ((i + 1 : Nat) : Int) = (i : Int) + 1 := by omega
      rw [e1]; exact he'
    · have hb' : b < s.heap.objs.size := by
        have e' : b = e ∨ b = it := by simpa using hb
        rcases e' with z | z
        · rw [z]; exact hel
        · rw [z]; exact hil
      rw [upd_ne (Nat.ne_of_lt hb')]
      exact (hf b hb).1
  done := by
    intro X hP hw hK hc i pins s σ H E I hf st hg
    subst hP hw hK
    obtain ⟨⟨old, he⟩, hit, hne⟩ := st
    obtain ⟨xs, hq, hx⟩ := hg
    obtain ⟨its, rv, p, hz⟩ := I.tuple hq
    obtain ⟨f0, f1, f2, f3, f4, f5⟩ := hf it (by simp)
    have hl := rv.length
    have p' : s.heap.IsTuple a its.toArray := p
    have hai : a ≠ it := fun z => by
      obtain ⟨o1, q1, c1, _⟩ := p'
      obtain ⟨o2, q2, c2, _⟩ := hit
      rw [z, q2] at q1; cases q1; rw [c2] at c1; exact absurd c1 (by decide)
    have hi : i = its.toArray.size := by simp; omega
    subst hi
    exact wpAny_pyNext_enum_endD (Draws.tuple (prog := X.prog) (w := X.w) (A := X.A.in1) (I.ok.hd hc) it a hai its.toArray) he ⟨hit, p'⟩ fun h' eb => ⟨rfl, I.turned (t' := s.toks) (fun b o hb q => eb b o hb q) f0 f1 f3 f4 f5⟩
  self := fun A i s Q E st h => let ⟨⟨_, he⟩, _⟩ := st; wpAny_pyIter_enum he h
def iEnumT (K : PySem.W.Frag) (ta : TA) : TI := fun σ H R => ta σ H fun vs H1 => ∃ a xs, vs = [.ref a] ∧ SqT K H1 a xs ∧ R (IteT K a) H1
theorem pi_enumT {X : Cx} {e : Expr} {ta : TA} {p pos tpos : Pos} {elts : List Expr} {kk : Nat} (hg : Gl X "enumerate") (hm : X.mg "enumerate" = none) (ha : PA X [e] ta) (hs : starEach [e] X.env = [(false, eval e X.env)] := by rfl) :
    PI X (.Tuple elts kk tpos) (.Call (.Name "enumerate" p) [e] [] pos) (iEnumT X.K ta) := by
  refine ⟨fun pins s σ H R I h => ?_⟩
  refine Call_ (ld_blt I hg hm boot_enumerate (PyProof.Rows.callWith_type1 (thn (ha.run pos pins s σ H _ I h) fun us s1 ⟨vs, H1, I1, r1, q1⟩ => ?_) hs rfl))
  obtain ⟨a, xs, ex, hq, q⟩ := q1
  subst ex
  cases r1 with
  | cons r rr =>
    cases rr
    cases r
    obtain ⟨its, rv, p', hz⟩ := I1.tuple hq
    refine call_enumerate_tuple (show s1.heap.IsTuple a its.toArray from p') fun h' he hit hsz hk => wpAny_pyIter_enum he ?_
    have I2 : Inv X pins σ H1 { s1 with heap := h' } := I1.kept (t' := s1.toks) hk
    refine ⟨s1.heap.objs.size + 1, [s1.heap.objs.size + 1, s1.heap.objs.size], _, _, H1, rfl, I2, turn_enumT a (s1.heap.objs.size + 1) s1.heap.objs.size, ⟨⟨.none, he⟩, hit, Nat.succ_ne_self _⟩, fun b hb => ?_, q⟩
    have e' : b = s1.heap.objs.size + 1 ∨ b = s1.heap.objs.size := by simpa using hb
    have hle : s1.heap.objs.size ≤ b := by
      rcases e' with z | z
      · rw [z]; exact Nat.le_add_right _ _
      · rw [z]; exact Nat.le_refl _
    exact I1.fpOk hle (I1.hok.fresh hle)
theorem walk_enumT {K : PySem.W.Frag} {a : Addr} {xs : List V} : Walk (IteT K a) xs.length (fun H => SqT K H a xs) (YPair (fun i => some (.int (i : Nat))) (fun i => xs[i]?)) := by
  refine ⟨fun i _ hi q => ⟨xs, xs[i], q, by simp [hi]⟩, fun _ q => ⟨xs, q, rfl⟩, fun i H v H' _ q y => ?_⟩
  obtain ⟨T, x, h1, h2, h3, h4⟩ := y
  exact ⟨T, .int (i : Nat), x, h1, h2, h3, rfl, h4 xs q⟩
end Kn
namespace Kn
open PySem PySem.Spec PyProof.Rows L2
open Vbktaa (Form Size idxOf NAMES)
/-! ### a pattern's letters -/
def sgn (s : Size) : Nat := s.name.headD 0
def hiI (s : Size) : Int := match s.hi with
  | some h => (h : Int)
  | none => -1
/-- letters are named by one small letter -/
def Named (ss : List Size) : Prop := ∀ s ∈ ss, ∃ n, s.name = [n] ∧ Vbktaa.small n = true
theorem Named.lets {ss : List Size} (h : Named ss) : lets (ss.map sgn) = ss.map fun s => s.name := by
  unfold Kn.lets
  rw [List.map_map]
  refine List.map_congr_left fun s hs => ?_
  obtain ⟨n, e, _⟩ := h s hs
  show [s.name.headD 0] = s.name
  rw [e]; rfl
theorem Named.letters {ss : List Size} (h : Named ss) : Letters (ss.map sgn) := fun c hc => by
  obtain ⟨s, hs, rfl⟩ := List.mem_map.mp hc
  obtain ⟨n, e, hn⟩ := h s hs
  show Vbktaa.small (s.name.headD 0) = true
  rw [e]; exact hn
def LetAt (H : Hp) (a : Addr) (s : Size) : Prop := H a = some (.tup [.int (sgn s : Int), .int (s.lo : Int), .int (s.step : Int), .int (hiI s)])
structure PatL (K : PySem.W.Frag) (H : Hp) (p : Addr) (ss : List Size) : Prop where
  ex : ∃ (dx : Addr) (fs : List (Str × V)) (la : Addr) (as : List Addr), H p = some (.ins (He.ga K "Pattern") dx fs) ∧ fs.lookup ("letters" : Str) = some (.ref la) ∧ fs.lookup ("signs" : Str) = none ∧ H la = some (.lst (as.map V.ref)) ∧ Paired (LetAt H) as ss
  named : Named ss
  len : ss.length ≤ 100
theorem PatL.mono {K : PySem.W.Frag} {H H' : Hp} {p : Addr} {ss : List Size} (s : Same H H') (h : PatL K H p ss) : PatL K H' p ss := by
  obtain ⟨dx, fs, la, as, h1, h2, h3, h4, h5⟩ := h.ex
  exact ⟨⟨dx, fs, la, as, s _ _ h1, h2, h3, s _ _ h4, paired_mono (fun _ _ r => s _ _ r) h5⟩, h.named, h.len⟩
section
variable {X : Cx} {CX : CXT} {k j : Nat} {C f : Addr} {m : Str} {ps : List Str} {sp : Sp} {E : XK} {o : Expr} {ta : TE} {p pos apos : Pos}
/-- o.m() -/
theorem pe_m0 {pl : Sem Bool} (he : PE X o ta) (c : Cls X.K C) (hm : Meth X.K C m f) (F : CalM X.prog X.w X.K X.mg X.base CX k f ps sp) (hr : Room j X.A) (hx : Passes CX X E) (hk : k ≤ j := by decide)
    (ht : eval (.Call (.Attribute o m apos) [] [] pos) X.env = (do
      let ov ← eval o X.env
      standAt apos.atName
      let (f, first) ← holding [ov] (getMethod ov m pl)
      callWith pos f first (backTo pos (starEach [] X.env)) (backToKw pos (keywordEach [] X.env))) := by rfl) :
    PE X (.Call (.Attribute o m apos) [] [] pos) (tMeth C m sp [] E ta tNil) := by
  obtain ⟨fd, F, hb⟩ := F
  exact pe_meth0 he c hm F (hr.mono hk) hb .nil hx ht
end
section
variable {P : Program} {w : World} {K : PySem.W.Frag} {mg : Str → Option Value} {base : Heap}
/-! ### Pattern.signs -/
def spPSigns (K : PySem.W.Frag) : Sp := fun vs H Q _ => ∃ (p : Addr) (ss : List Size), vs = [.ref p] ∧ PatL K H p ss ∧ New H (VT (ss.map sgn)) Q
theorem sc_Pattern_signs : FnScope ["self", "letter"] ["self"] (defScope s_Pattern_signs) := ⟨rfl, rfl, rfl, by decide +kernel, rfl, by decide +kernel, by decide +kernel⟩
theorem ok_Pattern_signs (T : Txt K mg) (D : DefM K (He.ga K "Pattern") "signs" "Pattern.signs" s_Pattern_signs) : CalM P w K mg base CX0 1 (He.ma K (He.ga K "Pattern") "signs") ["self"] (spPSigns K) := by
  have sc := sc_Pattern_signs
  refine CalM.mk' D sc (fun _ _ _ _ _ _ us hl => match us, hl with | [_], _ => rfl) (fun vs H Q E h => ?_) (fun cdv A outer s H vs Q E hr h => ?_)
  · obtain ⟨_, _, rfl, _⟩ := h; rfl
  obtain ⟨p, ss, rfl, hP, k⟩ := h
  refine ⟨_, PSs.nox (pss_one (ps_ret (pe_lc (own := [("letter", 1)]) (g := gName 1) rfl sc.nd (pi_list (pe_fld (pv 0) rfl)) (blkOk_by (N := ["self", "letter"]) (sc := defScope s_Pattern_signs) (by decide +kernel)) (fun _ _ _ _ _ => (pg_name (i := 1) sc.nd rfl (Or.inl rfl))) (fun _ _ _ _ _ => pts_nil) (fun _ _ _ _ _ => (pe_ix (show IxR _ (rIxT K) from ix_tup) (pv 1) pe_int (fun _ _ => rfl)))))), ?_⟩
  obtain ⟨dx, fs, la, as, h1, h2, h3, h4, h5⟩ := hP.ex
  have hlen := paired_len h5
  refine ⟨_, rfl, p, _, dx, fs, _, rfl, h1, T.cPattern, T.nPattern_letters, h2, la, rfl, ⟨_, SqL.of h4⟩, fun D hD => lc_it walk_list (fun i H' => Same H H' ∧ H' D = some (.lst (VT ((ss.map sgn).take i)))) ⟨same_new hD, upd_same⟩ (fun i H' _ q => SqL.of (q.1 _ _ h4)) ?_ ?_⟩
  · rintro i x H1 H2 hi ⟨s1, hd⟩ ⟨rfl, hx⟩
    obtain ⟨a, ha, rfl⟩ := map_get hx
    obtain ⟨z, hz, hL⟩ := paired_get h5 ha
    have e : (ss.map sgn)[i]? = some (sgn z) := by rw [List.getElem?_map, hz]; rfl
    refine ⟨rfl, _, rfl, _, _, _, _, rfl, rfl, SqT.of (s1 _ _ hL), atI_nat (j := 0) rfl, _, hd, small ?_, same_put s1 hD, ?_⟩
    · rw [VT_len, List.length_take, List.length_map]
      have := hP.len
      omega
    · rw [upd_same, take_more e, VT_app]; rfl
  · rintro H1 ⟨s1, hd⟩
    refine k _ _ s1 hD ?_
    rw [hd, List.length_map, hlen, show ss.length = (ss.map sgn).length from (List.length_map _).symm, take_all]
/-! ### form_in -/
def spFormIn (K : PySem.W.Frag) : Sp := fun vs H Q E => ∃ (p a : Addr) (t : List Nat) (ss : List Size), vs = [.ref p, .ref a] ∧ PatL K H p ss ∧ SqL K H a (VT t) ∧ t.length ≤ 3000 ∧
  (formI (ss.map sgn) t = none → Errs K H E 0 1) ∧ ∀ f, formI (ss.map sgn) t = some f → ∀ (H' : Hp) (b : Addr), Same H H' → H b = none → FormAt H' b f → Q (.ref b) H'
theorem sc_form_in : FnScope ["pattern", "word", "form"] ["pattern", "word"] (defScope s_form_in) := ⟨rfl, rfl, rfl, by decide +kernel, rfl, by decide +kernel, by decide +kernel⟩
theorem ok_form_in (T : Txt K mg) (R : RaiW P w K mg base) (D : Def K mg "form_in" s_form_in) (c_form_of : Cal P w K mg base CX0 4 "form_of" ["word", "letters"] (spForm K)) (m_signs : CalM P w K mg base CX0 1 (He.ma K (He.ga K "Pattern") "signs") ["self"] (spPSigns K)) :
    Cal P w K mg base (L2.CX P w) 5 "form_in" ["pattern", "word"] (spFormIn K) := by
  have sc := sc_form_in
  refine Cal.mk' D sc (fun _ _ _ _ _ _ us hl => match us, hl with | [_, _], _ => rfl) (fun vs H Q E h => ?_) (fun f cdv A outer s H vs Q E hr h => ?_)
  · obtain ⟨_, _, _, _, rfl, _⟩ := h; rfl
  obtain ⟨p, a, t, ss, rfl, hP, hS, hl, hbad, hgood⟩ := h
  refine ⟨_, (pss_cons (ps_set (i := 2) sc.nd rfl (Or.inl rfl) (pe_f c_form_of hr pass0 (pa_cons (pv 1) (pa_cons (pe_m0 (pv 0) T.cPattern T.mt_signs m_signs hr pass0) pa_nil))))
    (pss_cons (ps_if (pt_cmpR op_isN (pv 2) pe_non (nomark _)) (pss_one (ps_raise rfl (takes_of rfl rfl rfl rfl) (pmk_Wrong R hr (mono_cons mono_c (mono_cons mono_c mono_nil)) (pa_cons pe_int (pa_cons pe_int pa_nil))))) pss_nil)
    (pss_one (ps_ret (pv 2))))), ?_⟩
  obtain ⟨dx, fs, la, as, h1, h2, h3, h4, h5⟩ := hP.ex
  refine ⟨_, rfl, _, rfl, p, dx, fs, rfl, h1, h3, p, ss, rfl, hP, fun H1 l s1 hl0 hl1 => ?_⟩
  refine ⟨a, l, t, _, rfl, s1.seq hS, SqL.of hl1, hl, by rw [List.length_map]; exact hP.len, hP.named.letters, fun H2 s2 => ?_⟩
  cases e : formI (ss.map sgn) t with
  | none =>
    refine ⟨_, rfl, rfl, _, rfl, ?_⟩
    refine if_true_of rfl ⟨_, _, rfl, (hbad e).at_ (s1.trans s2)⟩
  | some fm =>
    intro b hb hF
    refine ⟨_, rfl, rfl, _, rfl, ?_⟩
    refine if_false_of rfl ⟨_, rfl, hgood fm e _ b (s1.trans s2) (s1.free hb) hF⟩
end
end Kn
namespace Kn
open PySem PySem.Spec PyProof.Rows L2
open Vbktaa (Form Size idxOf NAMES)
def nameS : List Str := ["k", "p", "yo", "kt", "sk", "pt", "kf", "sl"]
theorem nameS_are : nameS.map (fun z => z.cps.toList) = NAMES := by decide +kernel
theorem nameS_small : ∀ z ∈ nameS, z.cps.size ≤ 1000 := by decide +kernel
theorem idx_first {l : List (List Nat)} {t : List Nat} {i : Nat} (h : l[i]? = some t) (hn : t ∉ l.take i) : idxOf l t = some i := by
  have hi : i < l.length := (List.getElem?_eq_some_iff.mp h).1
  have e : (l.findIdx fun x => x == t) = i := by
    have h1 : (l.findIdx fun x => x == t) ≤ i := by
      refine Nat.le_of_not_lt fun z => ?_
      have := List.not_of_lt_findIdx z
      have e2 : l[i] = t := (List.getElem?_eq_some_iff.mp h).2
      rw [e2] at this
      simp at this
    refine Nat.le_antisymm h1 (Nat.le_of_not_lt fun z => ?_)
    have hf : (l.findIdx fun x => x == t) < l.length := Nat.lt_trans z hi
    have e2 := List.findIdx_getElem (w := hf)
    refine hn ?_
    rw [← eq_of_beq e2]
    exact List.mem_take_iff_getElem.mpr ⟨_, by omega, rfl⟩
  show (if (l.findIdx fun x => x == t) < l.length then some (l.findIdx fun x => x == t) else none) = some i
  rw [e, if_pos hi]
theorem idx_absent {l : List (List Nat)} {t : List Nat} (hn : t ∉ l) : idxOf l t = none := by
  show (if (l.findIdx fun x => x == t) < l.length then some (l.findIdx fun x => x == t) else none) = none
  rw [if_neg]
  intro z
  obtain ⟨x, hx, e⟩ := List.findIdx_lt_length.mp z
  rw [← eq_of_beq e] at hn
  exact hn hx
/-- a stitch's number, or -1 -/
def stitchI (t : List Nat) : Int := match idxOf NAMES t with
  | some s => (s : Int)
  | none => -1
section
variable {P : Program} {w : World} {K : PySem.W.Frag} {mg : Str → Option Value} {base : Heap}
/-! ### stitch_of -/
def spStitch (K : PySem.W.Frag) : Sp := fun vs H Q _ => ∃ (a : Addr) (t : List Nat), vs = [.ref a] ∧ SqL K H a (VT t) ∧ ∀ H', Same H H' → Q (.int (stitchI t)) H'
theorem sc_stitch_of : FnScope ["word", "number", "name"] ["word"] (defScope s_stitch_of) := ⟨rfl, rfl, rfl, by decide +kernel, rfl, by decide +kernel, by decide +kernel⟩
theorem ok_stitch_of (T : Txt K mg) (D : Def K mg "stitch_of" s_stitch_of) (c_signs_of : Cal P w K mg base CX0 1 "signs_of" ["word"] spSigns) : Cal P w K mg base CX0 2 "stitch_of" ["word"] (spStitch K) := by
  have sc := sc_stitch_of
  refine Cal.mk' D sc (fun _ _ _ _ _ _ us hl => match us, hl with | [_], _ => rfl) (fun vs H Q E h => ?_) (fun f cdv A outer s H vs Q E hr h => ?_)
  · obtain ⟨_, _, rfl, _⟩ := h; rfl
  obtain ⟨a, t, rfl, hS, k⟩ := h
  refine ⟨_, PSs.nox (pss_cons (ps_for PassesOwn.never rfl (pi_enumT (by rfl) T.f_enumerate (pa_cons (pe_gr T.g_STITCHES) pa_nil)) (pg_tup rfl (pgs_cons (pg_name (i := 1) sc.nd rfl (Or.inl rfl)) (pgs_cons (pg_name (i := 2) sc.nd rfl (Or.inl rfl)) pgs_nil))) (pss_one (ps_if (pt_cmpR (op_eqT hr.units) (pe_f c_signs_of hr pass0 (pa_cons (pv 2) pa_nil)) (pv 0) (nomark _)) (pss_one (ps_ret (pv 1))) pss_nil)))
    (pss_one (ps_ret (pe_un un_neg pe_int)))), ?_⟩
  have hT : ∀ H, SqT K H (He.ga K "STITCHES") (nameS.map V.str) := T.t_STITCHES
  refine ⟨_, _, rfl, hT _, for_it walk_enumT (fun i σ H' => ∃ (v1 v2 : Option V), σ = [some (.ref a), v1, v2] ∧ Same H H' ∧ t ∉ NAMES.take i)
    ⟨none, none, rfl, Same.refl H, by simp⟩ (fun i σ H' _ _ => hT H') ?_ ?_⟩
  · rintro i x σ H1 H2 hi ⟨v1, v2, rfl, s1, hno⟩ ⟨p, x1, x2, rfl, hp, rfl, hx1, hx2⟩
    obtain ⟨z, hz, rfl⟩ := map_get hx2
    have ex1 := Option.some.inj hx1
    subst ex1
    have e : NAMES[i]? = some z.cps.toList := by rw [← nameS_are, List.getElem?_map, hz]; rfl
    have s2 : Same H (upd H1 p (.tup [.int (i : Nat), .str z])) := same_put s1 (s1.free hp)
    refine ⟨p, _, rfl, SqT.of upd_same, rfl, _, _, rfl, _, _, rfl, rfl, ?_⟩
    refine ⟨_, rfl, z, rfl, nameS_small z (List.mem_of_getElem? hz), fun H3 q s3 hq hq2 => ?_⟩
    refine ⟨_, rfl, q, a, _, t, rfl, rfl, SqL.of hq2, (s2.trans s3).seq hS, _, rfl, ?_⟩
    by_cases c : z.cps.toList = t
    · refine if_true_of (decide_eq_true c) ⟨_, rfl, ?_⟩
      have eS : stitchI t = (i : Int) := by
        unfold stitchI
        rw [idx_first (by rw [e, c]) hno]
      rw [← eS]
      exact k H3 (s2.trans s3)
    · refine if_false_of (decide_eq_false c) ⟨_, _, rfl, s2.trans s3, ?_⟩
      rw [take_more e]
      intro m
      rcases List.mem_append.mp m with m | m
      · exact hno m
      · exact c (List.mem_singleton.mp m).symm
  · rintro σ H1 ⟨v1, v2, rfl, s1, hno⟩
    have e : NAMES.take (nameS.map V.str).length = NAMES := by decide +kernel
    rw [e] at hno
    refine ⟨_, rfl, ?_⟩
    have eS : stitchI t = -1 := by
      unfold stitchI
      rw [idx_absent hno]
    have := k H1 s1
    rw [eS] at this
    exact this
/-! ### times_at -/
theorem rep_zero (n : Nat) : (List.replicate n [V.int 0]).flatten = (List.replicate n (0 : Int)).map V.int := by
  rw [List.map_replicate]
  induction n with
  | zero => rfl
  | succ n ih => rw [List.replicate_succ, List.flatten_cons, ih, List.replicate_succ]; rfl
/-- the form 1 -/
def oneOf (n : Nat) : Form := Vbktaa.sumTerms n [(1, none)]
theorem oneOf_is (n : Nat) : fL (oneOf n) = 1 :: List.replicate n 0 := rfl
def timesR (ls : List Nat) (words : List (List Nat)) (at_ : Nat) : Form × Nat := match words[at_]? with
  | none => (oneOf ls.length, at_)
  | some t => match formI ls t with
    | none => (oneOf ls.length, at_)
    | some f => (f, at_ + 1)
theorem timesR_end {ls : List Nat} {words : List (List Nat)} {at_ : Nat} (h : at_ = words.length) : timesR ls words at_ = (oneOf ls.length, at_) := by
  unfold timesR
  rw [List.getElem?_eq_none (by omega)]
theorem timesR_no {ls : List Nat} {words : List (List Nat)} {at_ : Nat} {t : List Nat} (h : words[at_]? = some t) (e : formI ls t = none) : timesR ls words at_ = (oneOf ls.length, at_) := by
  unfold timesR
  rw [h]; simp only [e]
theorem timesR_yes {ls : List Nat} {words : List (List Nat)} {at_ : Nat} {t : List Nat} {f : Form} (h : words[at_]? = some t) (e : formI ls t = some f) : timesR ls words at_ = (f, at_ + 1) := by
  unfold timesR
  rw [h]; simp only [e]
/-- texts whose words are short -/
def Short (words : List (List Nat)) : Prop := ∀ t ∈ words, t.length ≤ 3000
theorem txts_get {K : PySem.W.Frag} {H : Hp} {a : Addr} {words : List (List Nat)} {i : Nat} {t : List Nat} (h : TxtsAt H a words) (e : words[i]? = some t) : ∃ xs b, H a = some (.lst xs) ∧ xs.length = words.length ∧ xs[i]? = some (.ref b) ∧ H b = some (.lst (VT t)) := by
  obtain ⟨as, h1, h2⟩ := h
  have hl := paired_len h2
  have hi : i < words.length := (List.getElem?_eq_some_iff.mp e).1
  have ha : as[i]? = some as[i] := List.getElem?_eq_getElem (by omega)
  obtain ⟨t', e', ht⟩ := paired_get h2 ha
  rw [e] at e'
  cases e'
  exact ⟨_, as[i], h1, by rw [List.length_map]; exact hl, by rw [List.getElem?_map, ha]; rfl, ht⟩
theorem txts_len {H : Hp} {a : Addr} {words : List (List Nat)} (h : TxtsAt H a words) : ∃ xs, H a = some (.lst xs) ∧ xs.length = words.length := by
  obtain ⟨as, h1, h2⟩ := h
  exact ⟨_, h1, by rw [List.length_map]; exact paired_len h2⟩
def spTimes (K : PySem.W.Frag) : Sp := fun vs H Q _ => ∃ (p a : Addr) (i : Nat) (words : List (List Nat)) (ss : List Size), vs = [.ref p, .ref a, .int (i : Int)] ∧ PatL K H p ss ∧ TxtsAt H a words ∧ Short words ∧ i ≤ words.length ∧
  ∀ (H' : Hp) (q b : Addr), Same H H' → H q = none → H b = none → H' q = some (.tup [.ref b, .int ((timesR (ss.map sgn) words i).2 : Int)]) → FormAt H' b (timesR (ss.map sgn) words i).1 → Q (.ref q) H'
theorem sc_times_at : FnScope ["pattern", "words", "at", "one", "form"] ["pattern", "words", "at"] (defScope s_times_at) := ⟨rfl, rfl, rfl, by decide +kernel, rfl, by decide +kernel, by decide +kernel⟩
theorem ok_times_at (T : Txt K mg) (D : Def K mg "times_at" s_times_at) (c_form_of : Cal P w K mg base CX0 4 "form_of" ["word", "letters"] (spForm K)) (m_signs : CalM P w K mg base CX0 1 (He.ma K (He.ga K "Pattern") "signs") ["self"] (spPSigns K)) :
    Cal P w K mg base CX0 5 "times_at" ["pattern", "words", "at"] (spTimes K) := by
  have sc := sc_times_at
  refine Cal.mk' D sc (fun _ _ _ _ _ _ us hl => match us, hl with | [_, _, _], _ => rfl) (fun vs H Q E h => ?_) (fun f cdv A outer s H vs Q E hr h => ?_)
  · obtain ⟨_, _, _, _, _, rfl, _⟩ := h; rfl
  obtain ⟨p, a, i, words, ss, rfl, hP, hW, hsh, hi, k⟩ := h
  refine ⟨_, PSs.nox (pss_cons (ps_set (i := 3) sc.nd rfl (Or.inl rfl) (pe_op op_cat (pe_lst (pa_cons pe_int pa_nil)) (pe_op op_rep (pe_lst (pa_cons pe_int pa_nil)) (pe_callB call_len_seq (by rfl) T.f_len (by decide +kernel) (pa_cons (pe_fld (pv 0) rfl) pa_nil)))))
  (pss_cons (ps_if (pt_cmpR op_eq (pv 2) (pe_callB call_len_seq (by rfl) T.f_len (by decide +kernel) (pa_cons (pv 1) pa_nil)) (nomark _)) (pss_one (ps_ret (pe_tup (pa_cons (pv 3) (pa_cons (pv 2) pa_nil))))) pss_nil)
  (pss_cons (ps_set (i := 4) sc.nd rfl (Or.inl rfl) (pe_f c_form_of hr pass0 (pa_cons (pe_ix ix_list (pv 1) (pv 2) (fun _ _ => rfl)) (pa_cons (pe_m0 (pv 0) T.cPattern T.mt_signs m_signs hr pass0) pa_nil))))
  (pss_cons (ps_if (pt_cmpR op_isN (pv 4) pe_non (nomark _)) (pss_one (ps_ret (pe_tup (pa_cons (pv 3) (pa_cons (pv 2) pa_nil))))) pss_nil)
  (pss_one (ps_ret (pe_tup (pa_cons (pv 4) (pa_cons (pe_op op_add (pv 2) pe_int) pa_nil))))))))), ?_⟩
  obtain ⟨dx, fs, la, as, h1, h2, h3, h4, h5⟩ := hP.ex
  have hlen : (as.map V.ref).length = ss.length := by rw [List.length_map]; exact paired_len h5
  refine ⟨small' (by show 1 ≤ 16000000; decide), fun o1 ho1 => ⟨small' (by show 1 ≤ 16000000; decide), fun o2 ho2 => ?_⟩⟩
  have n12 : o1 ≠ o2 := fun e => by rw [e] at ho1; rw [e, upd_same] at ho2; cases ho2
  have s1 : Same H (upd (upd H o1 (.lst [.int 1])) o2 (.lst [.int 0])) := same_put (same_new ho1) ((same_new ho1).free ho2)
  refine ⟨_, rfl, p, _, dx, fs, _, rfl, s1 _ _ h1, T.cPattern, T.nPattern_letters, h2, la, _, rfl, .inl (SqL.of (s1 _ _ h4)), ?_⟩
  have hss : ss.length ≤ 100 := hP.len
  rw [hlen]
  refine ⟨_, _, _, rfl, rfl, upd_same, by omega, by omega, by rw [Int.toNat_natCast]; exact small' (by simp; omega), fun o3 ho3 => ?_⟩
  rw [Int.toNat_natCast, rep_zero]
  have s2 : Same H (upd (upd (upd H o1 (.lst [.int 1])) o2 (.lst [.int 0])) o3 (.lst ((List.replicate ss.length (0 : Int)).map V.int))) := same_put s1 (s1.free ho3)
  refine ⟨_, _, _, _, rfl, rfl, put_at ho3 (put_at ho2 upd_same), upd_same, small' (by simp; omega), fun b hb => ?_⟩
  have s3 := same_put (o := .lst (V.int 1 :: (List.replicate ss.length (0 : Int)).map V.int)) s2 (s2.free hb)
  generalize hG : upd (upd (upd (upd H o1 (.lst [.int 1])) o2 (.lst [.int 0])) o3 (.lst ((List.replicate ss.length (0 : Int)).map V.int))) b (.lst ([V.int 1] ++ (List.replicate ss.length (0 : Int)).map V.int)) = G
  have hone : FormAt G b (oneOf (ss.map sgn).length) := by
    rw [← hG]
    unfold FormAt
    rw [upd_same, oneOf_is, List.length_map]; rfl
  have s4 : Same H G := by rw [← hG]; exact s3
  have hbH : H b = none := s2.free hb
  clear hG s3 s2 hb
  obtain ⟨xs, hx1, hx2⟩ := txts_len hW
  refine ⟨_, rfl, _, rfl, a, xs, rfl, .inl (SqL.of (s4 _ _ hx1)), ?_⟩
  rw [hx2]
  refine ⟨rfl, _, rfl, ?_⟩
  by_cases c1 : i = words.length
  · refine if_true_of (decide_eq_true (by rw [c1])) ⟨_, rfl, _, rfl, small' (by show 2 ≤ 16000000; decide), fun q hq => ?_⟩
    rw [timesR_end c1] at k
    exact k _ q b (same_put s4 (s4.free hq)) (s4.free hq) hbH upd_same (put_at hq hone)
  · refine if_false_of (decide_eq_false (fun e => c1 (by have := V.int.inj e; omega))) ?_
    have hlt : i < words.length := by omega
    have hi' : words[i]? = some words[i] := List.getElem?_eq_getElem hlt
    obtain ⟨ys, c, hy1, hy2, hy3, hy4⟩ := txts_get (K := K) hW hi'
    refine ⟨_, rfl, _, rfl, a, _, _, _, rfl, rfl, SqL.of (s4 _ _ hy1), atI_nat hy3, ?_⟩
    refine ⟨_, rfl, p, dx, fs, rfl, s4 _ _ h1, h3, p, ss, rfl, hP.mono s4, fun H1 l s5 hl0 hl1 => ?_⟩
    have s6 := s4.trans s5
    refine ⟨c, l, words[i], _, rfl, SqL.of (s6 _ _ hy4), SqL.of hl1, hsh _ (List.mem_of_getElem? hi'), by rw [List.length_map]; exact hP.len, hP.named.letters, fun H2 s7 => ?_⟩
    have s8 := s6.trans s7
    have hone2 : FormAt H2 b (oneOf (ss.map sgn).length) := (hone.mono s5).mono s7
    cases e : formI (ss.map sgn) words[i] with
    | none =>
      refine ⟨_, rfl, rfl, _, rfl, ?_⟩
      refine if_true_of rfl ⟨_, rfl, _, rfl, small' (by show 2 ≤ 16000000; decide), fun q hq => ?_⟩
      rw [timesR_no hi' e] at k
      exact k _ q b (same_put s8 (s8.free hq)) (s8.free hq) hbH upd_same (put_at hq hone2)
    | some fm =>
      intro b2 hb2 hF
      refine ⟨_, rfl, rfl, _, rfl, ?_⟩
      refine if_false_of rfl ⟨_, rfl, _, rfl, _, _, rfl, rfl, small' (by show 2 ≤ 16000000; decide), fun q hq => ?_⟩
      rw [timesR_yes hi' e] at k
      exact k _ q b2 (same_put s8 (s8.free hq)) (s8.free hq) (s6.free hb2) upd_same (put_at hq hF)
end
end Kn
namespace Kn
open PySem PySem.Spec PyProof.Rows L2
open Vbktaa (Form Size Item Items idxOf NAMES OPEN SHUT BEGIN END)
theorem same_del {F H : Hp} {r : Addr} (s : Same F H) (n : F r = none) : Same F (del H r) := fun b o h => by
  rw [del_ne (ne_of_none h n)]; exact s b o h
theorem del_up {H : Hp} {r : Addr} {o : HO} : Same (del H r) (upd H r o) := fun b u h => by
  by_cases e : b = r
  · rw [e, del_same] at h; cases h
  · rw [del_ne e] at h
    rw [upd_ne e]; exact h
/-! ### items on the heap -/
mutual
def ItemAt (H : Hp) : Item → V → Prop
  | .st s t => fun v => ∃ p b, v = .ref p ∧ H p = some (.tup [.int 0, .int (s : Int), .ref b]) ∧ FormAt H b t
  | .group l t => fun v => ∃ p q b vs, v = .ref p ∧ H p = some (.tup [.int 1, .ref q, .ref b]) ∧ H q = some (.lst vs) ∧ ItemsAt H l vs ∧ FormAt H b t
  | .fill l t => fun v => ∃ p q b vs, v = .ref p ∧ H p = some (.tup [.int 2, .ref q, .ref b]) ∧ H q = some (.lst vs) ∧ ItemsAt H l vs ∧ FormAt H b t
def ItemsAt (H : Hp) : Items → List V → Prop
  | .nil => fun vs => vs = []
  | .cons i r => fun vs => ∃ v us, vs = v :: us ∧ ItemAt H i v ∧ ItemsAt H r us
end
mutual
theorem ItemAt.mono {H H' : Hp} (s : Same H H') : ∀ {i : Item} {v : V}, ItemAt H i v → ItemAt H' i v
  | .st _ _, _, ⟨p, b, e, h1, h2⟩ => ⟨p, b, e, s _ _ h1, h2.mono s⟩
  | .group _ _, _, ⟨p, q, b, vs, e, h1, h2, h3, h4⟩ => ⟨p, q, b, vs, e, s _ _ h1, s _ _ h2, ItemsAt.mono s h3, h4.mono s⟩
  | .fill _ _, _, ⟨p, q, b, vs, e, h1, h2, h3, h4⟩ => ⟨p, q, b, vs, e, s _ _ h1, s _ _ h2, ItemsAt.mono s h3, h4.mono s⟩
theorem ItemsAt.mono {H H' : Hp} (s : Same H H') : ∀ {l : Items} {vs : List V}, ItemsAt H l vs → ItemsAt H' l vs
  | .nil, _, h => h
  | .cons _ _, _, ⟨v, us, e, h1, h2⟩ => ⟨v, us, e, ItemAt.mono s h1, ItemsAt.mono s h2⟩
end
theorem items_snoc {H : Hp} {i : Item} {v : V} (h : ItemAt H i v) : ∀ {l : Items} {vs : List V}, ItemsAt H l vs → ItemsAt H (appI l (.cons i .nil)) (vs ++ [v])
  | .nil, vs, e => by
    have e : vs = [] := e
    subst e
    exact ⟨v, [], rfl, h, rfl⟩
  | .cons j r, _, ⟨u, us, e, h1, h2⟩ => by
    subst e
    exact ⟨u, us ++ [v], rfl, h1, items_snoc h h2⟩
def lenI : Items → Nat
  | .nil => 0
  | .cons _ r => lenI r + 1
theorem items_len {H : Hp} : ∀ {l : Items} {vs : List V}, ItemsAt H l vs → vs.length = lenI l
  | .nil, vs, e => by
    have e : vs = [] := e
    rw [e]; rfl
  | .cons j r, _, ⟨u, us, e, h1, h2⟩ => by
    rw [e]
    exact congrArg (· + 1) (items_len h2)
theorem lenI_app : ∀ (l m : Items), lenI (appI l m) = lenI l + lenI m
  | .nil, m => by show lenI m = 0 + lenI m; omega
  | .cons i r, m => by
    show lenI (appI r m) + 1 = lenI r + 1 + lenI m
    rw [lenI_app r m]; omega
/-! ### item_at, items_at -/
section
variable {P : Program} {w : World} {K : PySem.W.Frag} {mg : Str → Option Value} {base : Heap}
/-- how many words lie behind what is left -/
def spotOf (words z : List (List Nat)) : Nat := words.length - z.length
theorem place_drop {words z : List (List Nat)} {k i : Nat} (hk : k ≤ (words.drop i).length) (hi : i ≤ words.length) (e : z = (words.drop i).drop k) : z = words.drop (spotOf words z) ∧ spotOf words z ≤ words.length ∧ i + k = spotOf words z := by
  have h1 : spotOf words z = i + k := by
    unfold spotOf
    rw [e, List.length_drop, List.length_drop]
    rw [List.length_drop] at hk
    omega
  refine ⟨?_, ?_, h1.symm⟩
  · rw [h1, e, List.drop_drop]
  · rw [h1]
    rw [List.length_drop] at hk
    omega
structure ReadIn (K : PySem.W.Frag) (H : Hp) (p a : Addr) (words : List (List Nat)) (ss : List Size) : Prop where
  pat : PatL K H p ss
  txt : TxtsAt H a words
  short : Short words
  few : words.length ≤ 3000
theorem ReadIn.mono {H H' : Hp} {p a : Addr} {words : List (List Nat)} {ss : List Size} (s : Same H H') (h : ReadIn K H p a words ss) : ReadIn K H' p a words ss := ⟨h.pat.mono s, h.txt.mono s, h.short, h.few⟩
def spItem (K : PySem.W.Frag) (d : Nat) : Sp := fun vs H Q E => ∃ (p a : Addr) (i : Nat) (words : List (List Nat)) (ss : List Size), vs = [.ref p, .ref a, .int (i : Int), .int (3 - (d : Int))] ∧ d ≤ 3 ∧ ReadIn K H p a words ss ∧ i < words.length ∧
  (itemN (lets (ss.map sgn)) d (words.drop i) = none → Errs K H E 0 1) ∧
  ∀ x z, itemN (lets (ss.map sgn)) d (words.drop i) = some (x, z) → ∀ (H' : Hp) (q : Addr) (v : V), Same H H' → H' q = some (.tup [v, .int (spotOf words z : Int)]) → ItemAt (Off H H') x v → Q (.ref q) H'
def spItems (K : PySem.W.Frag) (d : Nat) : Sp := fun vs H Q E => ∃ (p a c : Addr) (i : Nat) (words : List (List Nat)) (last : List Nat) (ss : List Size), vs = [.ref p, .ref a, .int (i : Int), .int (3 - (d : Int)), .ref c] ∧ d ≤ 3 ∧ ReadIn K H p a words ss ∧ SqL K H c (VT last) ∧ i ≤ words.length ∧
  ((∀ x l z, itemsN (lets (ss.map sgn)) d (some last) (words.drop i) ≠ some (.cons x l, z)) → Errs K H E 0 1) ∧
  ∀ x l z, itemsN (lets (ss.map sgn)) d (some last) (words.drop i) = some (.cons x l, z) → ∀ (H' : Hp) (q r : Addr) (us : List V), Same H H' → H r = none → H' q = some (.tup [.ref r, .int (spotOf words z : Int)]) → H' r = some (.lst us) → ItemsAt (Off H H') (.cons x l) us → Q (.ref q) H'
/-- items within one bracket more, if one may be opened -/
def spItems0 (K : PySem.W.Frag) : Nat → Sp
  | 0 => fun _ _ _ _ => False
  | d + 1 => spItems K d
theorem sc_item_at : FnScope ["pattern", "words", "at", "deep", "stitch", "form", "behind", "items"] ["pattern", "words", "at", "deep"] (defScope s_item_at) := ⟨rfl, rfl, rfl, by decide +kernel, rfl, by decide +kernel, by decide +kernel⟩
theorem sc_items_at : FnScope ["pattern", "words", "first", "deep", "last", "found", "at", "item"] ["pattern", "words", "first", "deep", "last"] (defScope s_items_at) := ⟨rfl, rfl, rfl, by decide +kernel, rfl, by decide +kernel, by decide +kernel⟩
theorem ok_items_at {k d : Nat} (hk : 2 ≤ k) (T : Txt K mg) (R : RaiW P w K mg base) (D : Def K mg "items_at" s_items_at) (c_item_at : Cal P w K mg base (L2.CX P w) k "item_at" ["pattern", "words", "at", "deep"] (spItem K d)) :
    Cal P w K mg base (L2.CX P w) (k + 1) "items_at" ["pattern", "words", "first", "deep", "last"] (spItems K d) := by
  have sc := sc_items_at
  refine Cal.mk' D sc (fun _ _ _ _ _ _ us hl => match us, hl with | [_, _, _, _, _], _ => rfl) (fun vs H Q E h => ?_) (fun f cdv A outer s H vs Q E hr h => ?_)
  · obtain ⟨_, _, _, _, _, _, _, rfl, _⟩ := h; rfl
  obtain ⟨p, a, c, i, words, last, ss, rfl, hd3, hI, hC, hi, hbad, hgood⟩ := h
  refine ⟨_, (pss_cons (ps_set (i := 5) sc.nd rfl (Or.inl rfl) (pe_lst pa_nil))
    (pss_cons (ps_set (i := 6) sc.nd rfl (Or.inl rfl) (pv 2))
    (pss_cons (ps_while (passes_of rfl) (PW.pt (pw_and (pt_cmpR op_lt (pv 6) (pe_callB call_len_seq (by rfl) T.f_len (by decide +kernel) (pa_cons (pv 1) pa_nil)) (nomark _)) (pw_and1 (pt_cmpR (op_neT hr.units) (pe_ix ix_list (pv 1) (pv 6) (fun _ _ => rfl)) (pv 4) (nomark _))))) (pss_cons (ps_asg (pe_f c_item_at hr passR (pa_cons (pv 0) (pa_cons (pv 1) (pa_cons (pv 6) (pa_cons (pv 3) pa_nil)))) (hk := Nat.le_refl _)) (pg_tup rfl (pgs_cons (pg_name (i := 7) sc.nd rfl (Or.inl rfl)) (pgs_cons (pg_name (i := 6) sc.nd rfl (Or.inl rfl)) pgs_nil))))
      (pss_one (ps_expr (pe_bm PySem.F.plainAttrs_list PySem.F.slot_list_append PySem.F.type_list_append mt_append (pv 5) (pa_cons (pv 7) pa_nil))))))
    (pss_cons (ps_if (PW.pt (pw_or (pt_cmpR op_eq (pv 6) (pe_callB call_len_seq (by rfl) T.f_len (by decide +kernel) (pa_cons (pv 1) pa_nil)) (nomark _)) (pw_or1 (pt_cmpR (op_eqNil (Nat.lt_of_le_of_lt (Nat.le_add_right _ 64) hr.units)) (pv 5) (pe_lst pa_nil) (nomark _))))) (pss_one (ps_raise rfl (takes_of rfl rfl rfl rfl) (pmk_Wrong R hr (mono_cons mono_c (mono_cons mono_c mono_nil)) (pa_cons pe_int (pa_cons pe_int pa_nil)) (hk := hk)))) pss_nil)
    (pss_one (ps_ret (pe_tup (pa_cons (pv 5) (pa_cons (pe_op op_add (pv 6) pe_int) pa_nil))))))))), ?_⟩
  refine ⟨small' (by decide), fun r hr0 => ⟨_, rfl, ?_⟩⟩
  have L := lets (ss.map sgn)
  refine ⟨fun m σ H' => ∃ (j : Nat) (v7 : Option V) (F : Hp) (l : Items) (us : List V), m = words.length - j ∧ j ≤ words.length ∧ σ = [some (.ref p), some (.ref a), some (.int (i : Int)), some (.int (3 - (d : Int))), some (.ref c), some (.ref r), some (.int (j : Int)), v7] ∧
    Same H F ∧ F r = none ∧ Same F H' ∧ H' r = some (.lst us) ∧ ItemsAt (Off H F) l us ∧ us.length ≤ j ∧ itemsN (lets (ss.map sgn)) d (some last) (words.drop i) = ahead l (itemsN (lets (ss.map sgn)) d (some last) (words.drop j)),
    ⟨_, i, none, H, .nil, [], rfl, hi, rfl, Same.refl H, hr0, same_new hr0, upd_same, rfl, Nat.zero_le _, (ahead_nil _).symm⟩, ?_⟩
  rintro m σ H1 ⟨j, v7, F, l, us, rfl, hj, rfl, sF, hFr, s1, hus, hIt, hul, hE⟩
  have sH := sF.trans s1
  have hI1 := hI.mono sH
  obtain ⟨xs, hx1, hx2⟩ := txts_len hI1.txt
  refine ⟨_, rfl, _, rfl, a, xs, rfl, .inl (SqL.of hx1), ?_⟩
  rw [hx2]
  refine ⟨_, _, rfl, rfl, _, rfl, ?_⟩
  by_cases c1 : j = words.length
  · -- all is read
    refine if_false_of (decide_eq_false (by omega)) (if_false_of rfl ?_)
    refine ⟨_, rfl, _, rfl, a, xs, rfl, .inl (SqL.of hx1), ?_⟩
    rw [hx2]
    refine ⟨rfl, _, rfl, if_true_of (decide_eq_true (by rw [c1])) (if_true_of rfl ⟨_, _, rfl, ?_⟩)⟩
    refine Errs.at_ (hbad fun x l' z => ?_) sH
    rw [hE, c1, List.drop_length, itemsN_nil, if_neg (by simp)]
    exact fun e => nomatch e
  · have hlt : j < words.length := by omega
    refine if_true_of (decide_eq_true (by omega)) ?_
    have hw : words[j]? = some words[j] := List.getElem?_eq_getElem hlt
    have hdr : words.drop j = words[j] :: words.drop (j + 1) := List.drop_eq_getElem_cons hlt
    obtain ⟨ys, b, hy1, hy2, hy3, hy4⟩ := txts_get (K := K) hI1.txt hw
    refine ⟨_, rfl, _, rfl, a, _, _, _, rfl, rfl, SqL.of hy1, atI_nat hy3, _, rfl, b, c, _, last, rfl, rfl, SqL.of hy4, sH.seq hC, _, rfl, ?_⟩
    by_cases c2 : words[j] = last
    · -- the closing bracket
      refine if_false_of (by rw [decide_eq_true c2]; rfl) ?_
      refine ⟨_, rfl, _, rfl, a, xs, rfl, .inl (SqL.of hx1), ?_⟩
      rw [hx2]
      refine ⟨rfl, _, rfl, if_false_of (decide_eq_false (fun e => c1 (by have := V.int.inj e; omega))) ?_⟩
      rw [hdr, c2, itemsN_stop] at hE
      refine ⟨_, rfl, small' (by decide), fun e0 he0 => ⟨r, e0, us, rfl, rfl, SqL.of (put_at he0 hus), SqL.of upd_same, _, rfl, ?_⟩⟩
      have s2 : Same H1 (upd H1 e0 (.lst [])) := same_new he0
      cases l with
      | nil =>
        have e : us = [] := hIt
        subst e
        refine if_true_of rfl ⟨_, _, rfl, ?_⟩
        refine Errs.at_ (hbad fun x l' z => ?_) (sH.trans s2)
        rw [hE]
        exact fun e => nomatch e
      | cons x l =>
        have hne : us.isEmpty = false := by
          obtain ⟨v, us', e, _⟩ := hIt
          rw [e]; rfl
        refine if_false_of hne ?_
        refine ⟨_, rfl, _, rfl, _, _, rfl, rfl, small' (by show 2 ≤ 16000000; decide), fun q hq => ?_⟩
        have hq1 : H1 q = none := s2.free hq
        have s3 : Same H1 (upd (upd H1 e0 (.lst [])) q (.tup [.ref r, .int ((j : Int) + 1)])) := same_put s2 hq1
        have e1 : spotOf words (words.drop (j + 1)) = j + 1 := by
          unfold spotOf
          rw [List.length_drop]; omega
        refine hgood x l (words.drop (j + 1)) (by rw [hE]; show some (appI _ _, _) = _; rw [appI_nil]) _ q r us (sH.trans s3) hr0 ?_ (s3 _ _ hus) (hIt.mono (off_up (s1.trans s3)))
        rw [upd_same, e1]; rfl
    · -- one item more
      refine if_true_of (by rw [decide_eq_false c2]; rfl) ?_
      have hcw : some words[j] ≠ some last := fun e => c2 (Option.some.inj e)
      refine ⟨_, ⟨fun σ' H' w => w, ?_⟩⟩
      refine ⟨_, rfl, _, rfl, _, rfl, _, rfl, p, a, j, words, ss, rfl, hd3, hI1, hlt, fun e => ?_, fun x z e => ?_⟩
      · refine (hbad fun x l' z => ?_).mono sH
        rw [hdr] at e hE
        rw [hE, itemsN_fail hcw e]
        exact fun e => nomatch e
      · intro H2 q v s2 hq hv
        rw [hdr] at e hE
        rw [itemsN_step hcw e, ahead_ahead] at hE
        obtain ⟨k0, hk0, hk1, hk2⟩ := itemN_drop e
        rw [← hdr] at hk1 hk2
        obtain ⟨p1, p2, p3⟩ := place_drop hk1 hj hk2
        have hrH2 : H2 r = some (.lst us) := s2 _ _ hus
        refine ⟨q, _, rfl, SqT.of hq, rfl, _, _, rfl, _, _, rfl, rfl, ?_⟩
        refine ⟨_, rfl, .inl ⟨rfl, _, SqL.of hrH2⟩, _, rfl, r, _, _, rfl, rfl, hrH2, small (by have := hI.few; omega), ?_⟩
        have hH1r : H1 r = some (.lst us) := hus
        have nF : Same F (del H2 r) := same_del (s1.trans s2) hFr
        refine ⟨words.length - spotOf words z, by omega, spotOf words z, some v, del H2 r, appI l (.cons x .nil), us ++ [v], rfl, p2, rfl, sF.trans nF, del_same, del_up, upd_same, ?_, ?_, ?_⟩
        · refine items_snoc (hv.mono fun b o h => ?_) (hIt.mono (off_up nF))
          obtain ⟨h1, h2⟩ := off_some h
          rw [off_free (sH.free h1), del_ne (fun e => by rw [e, hus] at h1; cases h1)]
          exact h2
        · rw [List.length_append, List.length_singleton]; omega
        · rw [hE, ← p1]
end
end Kn
namespace Kn
open PySem PySem.Spec PyProof.Rows L2
open Vbktaa (Form Size Item Items idxOf NAMES OPEN SHUT BEGIN END)
theorem Room.u65 {k : Nat} {A : Around} (r : Room k A) : A.units + 65 < cLine := by have := r.un; omega
theorem cps_OPEN : (Str.ofString "(").cps.toList = OPEN := by decide +kernel
theorem cps_SHUT : (Str.ofString ")").cps.toList = SHUT := by decide +kernel
theorem cps_BEGIN : (Str.ofString "[").cps.toList = BEGIN := by decide +kernel
theorem cps_END : (Str.ofString "]").cps.toList = END := by decide +kernel
theorem cps_to : (Str.ofString "to").cps.toList = Vbktaa.word "to" := by decide +kernel
theorem len_cps {z : Str} {t : List Nat} (e : z.cps.toList = t) (h : t.length ≤ 1000) : z.cps.size ≤ 1000 := by
  rw [← e, Array.length_toList] at h; exact h
/-- times_at tells what the specification reads -/
theorem times_rel (ls : List Nat) (words : List (List Nat)) (mk : Form → Item) (j : Nat) (hj : j ≤ words.length) : timesIn (lets ls) mk (words.drop j) = some (mk (timesR ls words j).1, words.drop (timesR ls words j).2) ∧ (timesR ls words j).2 ≤ words.length := by
  by_cases c : j = words.length
  · rw [timesR_end c, c, List.drop_length]
    refine ⟨?_, Nat.le_refl _⟩
    show some _ = some _
    rw [show (lets ls).length = ls.length from List.length_map _]; rfl
  · have hlt : j < words.length := by omega
    have hw : words[j]? = some words[j] := List.getElem?_eq_getElem hlt
    have hdr : words.drop j = words[j] :: words.drop (j + 1) := List.drop_eq_getElem_cons hlt
    cases e : formI ls words[j] with
    | none =>
      rw [timesR_no hw e]
      refine ⟨?_, by show j ≤ _; omega⟩
      rw [hdr]
      unfold timesIn
      dsimp only
      rw [show Vbktaa.formOf (lets ls) words[j] = none from e]
      dsimp only
      rw [show (lets ls).length = ls.length from List.length_map _, ← hdr]; rfl
    | some f =>
      rw [timesR_yes hw e]
      refine ⟨?_, by show j + 1 ≤ _; omega⟩
      rw [hdr]
      unfold timesIn
      dsimp only
      rw [show Vbktaa.formOf (lets ls) words[j] = some f from e]
theorem vals_eq (p a q : Addr) (i d : Nat) : [V.ref p, V.ref a, V.int ((i : Int) + 1), V.int (3 - ((d + 1 : Nat) : Int) + 1), V.ref q] = [V.ref p, V.ref a, V.int ((i + 1 : Nat) : Int), V.int (3 - (d : Int)), V.ref q] := by
  rw [show (3 : Int) - ((d + 1 : Nat) : Int) + 1 = 3 - (d : Int) by omega]; rfl
theorem spot_drop {words : List (List Nat)} {k : Nat} (h : k ≤ words.length) : spotOf words (words.drop k) = k := by
  unfold spotOf
  rw [List.length_drop]; omega
section
variable {P : Program} {w : World} {K : PySem.W.Frag} {mg : Str → Option Value} {base : Heap}
theorem ok_item_at {k d : Nat} (hk : 5 ≤ k) (T : Txt K mg) (R : RaiW P w K mg base) (D : Def K mg "item_at" s_item_at)
    (c_signs_of : Cal P w K mg base CX0 1 "signs_of" ["word"] spSigns) (c_stitch_of : Cal P w K mg base CX0 2 "stitch_of" ["word"] (spStitch K)) (c_times_at : Cal P w K mg base CX0 5 "times_at" ["pattern", "words", "at"] (spTimes K))
    (c_form_in : Cal P w K mg base (L2.CX P w) 5 "form_in" ["pattern", "word"] (spFormIn K)) (c_items_at : Cal P w K mg base (L2.CX P w) k "items_at" ["pattern", "words", "first", "deep", "last"] (spItems0 K d)) :
    Cal P w K mg base (L2.CX P w) (k + 1) "item_at" ["pattern", "words", "at", "deep"] (spItem K d) := by
  have sc := sc_item_at
  refine Cal.mk' D sc (fun _ _ _ _ _ _ us hl => match us, hl with | [_, _, _, _], _ => rfl) (fun vs H Q E h => ?_) (fun f cdv A outer s H vs Q E hr h => ?_)
  · obtain ⟨_, _, _, _, _, rfl, _⟩ := h; rfl
  obtain ⟨p, a, i, words, ss, rfl, hd3, hI, hi, hbad, hgood⟩ := h
  have k1 : 1 ≤ k := by omega
  have k2 : 2 ≤ k := by omega
  refine ⟨_, (pss_cons (ps_set (i := 4) sc.nd rfl (Or.inl rfl) (pe_f c_stitch_of hr pass0 (pa_cons (pe_ix ix_list (pv 1) (pv 2) (fun _ _ => rfl)) pa_nil) (hk := k2)))
  (pss_cons (ps_if (pt_cmpR op_ge (pv 4) pe_int (nomark _)) (pss_cons (ps_asg (pe_f c_times_at hr pass0 (pa_cons (pv 0) (pa_cons (pv 1) (pa_cons (pe_op op_add (pv 2) pe_int) pa_nil))) (hk := hk)) (pg_tup rfl (pgs_cons (pg_name (i := 5) sc.nd rfl (Or.inl rfl)) (pgs_cons (pg_name (i := 6) sc.nd rfl (Or.inl rfl)) pgs_nil))))
    (pss_one (ps_ret (pe_tup (pa_cons (pe_tup (pa_cons (pe_gi T.i_STITCH) (pa_cons (pv 4) (pa_cons (pv 5) pa_nil)))) (pa_cons (pv 6) pa_nil)))))) pss_nil)
  (pss_cons (ps_if (PW.pt (pw_or (pt_cmpR (op_notInTT (Room.u65 hr)) (pe_ix ix_list (pv 1) (pv 2) (fun _ _ => rfl)) (pe_tup (pa_cons (pe_f c_signs_of hr pass0 (pa_cons pe_str pa_nil) (hk := k1)) (pa_cons (pe_f c_signs_of hr pass0 (pa_cons pe_str pa_nil) (hk := k1)) pa_nil))) rfl) (pw_or1 (pt_cmpR op_eq (pv 3) (pe_gi T.i_MOST_DEEP) (nomark _))))) (pss_one (ps_raise rfl (takes_of rfl rfl rfl rfl) (pmk_Wrong R hr (mono_cons mono_c (mono_cons mono_c mono_nil)) (pa_cons pe_int (pa_cons pe_int pa_nil)) (hk := k2)))) pss_nil)
  (pss_cons (ps_if (pt_cmpR (op_eqT hr.units) (pe_ix ix_list (pv 1) (pv 2) (fun _ _ => rfl)) (pe_f c_signs_of hr pass0 (pa_cons pe_str pa_nil) (hk := k1)) (nomark _)) (pss_cons (ps_asg (pe_f c_items_at hr passR (pa_cons (pv 0) (pa_cons (pv 1) (pa_cons (pe_op op_add (pv 2) pe_int) (pa_cons (pe_op op_add (pv 3) pe_int) (pa_cons (pe_f c_signs_of hr pass0 (pa_cons pe_str pa_nil) (hk := k1)) pa_nil))))) (hk := Nat.le_refl _)) (pg_tup rfl (pgs_cons (pg_name (i := 7) sc.nd rfl (Or.inl rfl)) (pgs_cons (pg_name (i := 6) sc.nd rfl (Or.inl rfl)) pgs_nil))))
    (pss_cons (ps_asg (pe_f c_times_at hr pass0 (pa_cons (pv 0) (pa_cons (pv 1) (pa_cons (pv 6) pa_nil))) (hk := hk)) (pg_tup rfl (pgs_cons (pg_name (i := 5) sc.nd rfl (Or.inl rfl)) (pgs_cons (pg_name (i := 6) sc.nd rfl (Or.inl rfl)) pgs_nil))))
    (pss_one (ps_ret (pe_tup (pa_cons (pe_tup (pa_cons (pe_gi T.i_ROUND) (pa_cons (pv 7) (pa_cons (pv 5) pa_nil)))) (pa_cons (pv 6) pa_nil))))))) pss_nil)
  (pss_cons (ps_asg (pe_f c_items_at hr passR (pa_cons (pv 0) (pa_cons (pv 1) (pa_cons (pe_op op_add (pv 2) pe_int) (pa_cons (pe_op op_add (pv 3) pe_int) (pa_cons (pe_f c_signs_of hr pass0 (pa_cons pe_str pa_nil) (hk := k1)) pa_nil))))) (hk := Nat.le_refl _)) (pg_tup rfl (pgs_cons (pg_name (i := 7) sc.nd rfl (Or.inl rfl)) (pgs_cons (pg_name (i := 6) sc.nd rfl (Or.inl rfl)) pgs_nil))))
  (pss_cons (ps_if (PW.pt (pw_or (pt_cmpR op_gt (pe_op op_add (pv 6) pe_int) (pe_callB call_len_seq (by rfl) T.f_len (by decide +kernel) (pa_cons (pv 1) pa_nil)) (nomark _)) (pw_or1 (pt_cmpR (op_neT hr.units) (pe_ix ix_list (pv 1) (pv 6) (fun _ _ => rfl)) (pe_f c_signs_of hr pass0 (pa_cons pe_str pa_nil) (hk := k1)) (nomark _))))) (pss_one (ps_raise rfl (takes_of rfl rfl rfl rfl) (pmk_Wrong R hr (mono_cons mono_c (mono_cons mono_c mono_nil)) (pa_cons pe_int (pa_cons pe_int pa_nil)) (hk := k2)))) pss_nil)
  (pss_one (ps_ret (pe_tup (pa_cons (pe_tup (pa_cons (pe_gi T.i_FILL) (pa_cons (pv 7) (pa_cons (pe_f c_form_in hr passR (pa_cons (pv 0) (pa_cons (pe_ix ix_list (pv 1) (pe_op op_add (pv 6) pe_int) (fun _ _ => rfl)) pa_nil)) (hk := hk)) pa_nil)))) (pa_cons (pe_op op_add (pv 6) pe_int) pa_nil))))))))))), ?_⟩
  have hw : words[i]? = some words[i] := List.getElem?_eq_getElem hi
  have hdr : words.drop i = words[i] :: words.drop (i + 1) := List.drop_eq_getElem_cons hi
  obtain ⟨ys, b, hy1, hy2, hy3, hy4⟩ := txts_get (K := K) hI.txt hw
  rw [hdr, itemN_cons] at hbad
  rw [hdr] at hgood
  refine ⟨_, rfl, _, rfl, a, _, _, _, rfl, rfl, SqL.of hy1, atI_nat hy3, b, words[i], rfl, SqL.of hy4, fun H1 s1 => ?_⟩
  refine ⟨_, rfl, _, _, rfl, rfl, _, rfl, ?_⟩
  cases eS : idxOf NAMES words[i] with
  | some st =>
    have e1 : stitchI words[i] = (st : Int) := by unfold stitchI; rw [eS]
    rw [e1]
    refine if_true_of (decide_eq_true (by omega)) ?_
    have nO : words[i] ≠ OPEN := fun e => by rw [e, show idxOf NAMES OPEN = none by decide] at eS; cases eS
    have nB : words[i] ≠ BEGIN := fun e => by rw [e, show idxOf NAMES BEGIN = none by decide] at eS; cases eS
    rw [itemN_cons, if_neg nO, if_neg nB, eS] at hgood
    obtain ⟨r1, r2⟩ := times_rel (ss.map sgn) words (.st st) (i + 1) (by omega)
    have I1 := hI.mono s1
    refine ⟨_, rfl, _, rfl, _, rfl, _, _, rfl, rfl, p, a, i + 1, words, ss, rfl, I1.pat, I1.txt, I1.short, by omega, fun H2 q c s2 hq0 hc0 hq hc => ?_⟩
    refine ⟨q, _, rfl, SqT.of hq, rfl, _, _, rfl, _, _, rfl, rfl, ?_⟩
    refine ⟨_, rfl, _, rfl, small' (by show 3 ≤ 16000000; decide), fun t3 ht3 => ⟨_, rfl, small' (by show 2 ≤ 16000000; decide), fun t2 ht2 => ?_⟩⟩
    have s3 : Same H2 (upd H2 t3 (.tup [.int 0, .int (st : Int), .ref c])) := same_new ht3
    have s4 : Same H2 (upd (upd H2 t3 (.tup [.int 0, .int (st : Int), .ref c])) t2 (.tup [.ref t3, .int ((timesR (ss.map sgn) words (i + 1)).2 : Int)])) := same_put s3 (s3.free ht2)
    have s12 := s1.trans s2
    refine hgood _ _ r1 _ t2 (.ref t3) (s12.trans s4) (by rw [upd_same, spot_drop r2]) ⟨t3, c, rfl, off_at (s12.free ht3) (put_at ht2 upd_same), off_at (s1.free hc0) (s4 _ _ hc)⟩
  | none =>
    have e1 : stitchI words[i] = -1 := by unfold stitchI; rw [eS]
    rw [e1]
    refine if_false_of (by decide) ?_
    refine ⟨_, rfl, _, rfl, a, _, _, _, rfl, rfl, SqL.of (s1 _ _ hy1), atI_nat hy3, _, rfl, len_cps cps_OPEN (by decide), fun H2 q1 s2 hq1 hq1' => ⟨_, rfl, len_cps cps_BEGIN (by decide), fun H3 q2 s3 hq2 hq2' => ⟨small' (by show 2 ≤ 16000000; decide), fun tp htp => ?_⟩⟩⟩
    rw [cps_OPEN] at hq1'
    rw [cps_BEGIN] at hq2'
    have s4 : Same H3 (upd H3 tp (.tup [.ref q1, .ref q2])) := same_new htp
    have s14 := (s1.trans s2).trans (s3.trans s4)
    generalize hG : upd H3 tp (.tup [.ref q1, .ref q2]) = G at s4 s14
    refine ⟨b, words[i], tp, [q1, q2], [OPEN, BEGIN], rfl, SqL.of (s14 _ _ hy4), rfl, SqT.of (by rw [← hG]; exact upd_same), .cons (SqL.of (s4 _ _ (s3 _ _ hq1'))) (.cons (SqL.of (s4 _ _ hq2')) .nil), _, rfl, ?_⟩
    by_cases c0 : words[i] = OPEN ∨ words[i] = BEGIN
    · have eC : (!([OPEN, BEGIN] : List (List Nat)).contains words[i]) = false := by
        rcases c0 with c0 | c0
        · rw [c0]; decide
        · rw [c0]; decide
      refine if_false_of eC ?_
      refine ⟨_, rfl, rfl, _, rfl, ?_⟩
      cases d with
      | zero =>
        refine if_true_of (by decide) ⟨_, _, rfl, ?_⟩
        refine Errs.at_ (hbad ?_) s14
        rcases c0 with c0 | c0
        · rw [if_pos c0]
        · rw [if_neg (by rw [c0]; decide), if_pos c0]
      | succ d =>
        refine if_false_of (decide_eq_false fun e => by have := V.int.inj e; omega) ?_
        refine ⟨_, rfl, _, rfl, a, _, _, _, rfl, rfl, SqL.of (s14 _ _ hy1), atI_nat hy3, _, rfl, len_cps cps_OPEN (by decide), fun H5 q5 s5 hq5 hq5' => ?_⟩
        rw [cps_OPEN] at hq5'
        have s15 := s14.trans s5
        refine ⟨b, q5, _, OPEN, rfl, rfl, SqL.of (s15 _ _ hy4), SqL.of hq5', _, rfl, ?_⟩
        have eD : (3 : Int) - ((d + 1 : Nat) : Int) + 1 = 3 - (d : Int) := by omega
        by_cases c1 : words[i] = OPEN
        · -- a round
          refine if_true_of (decide_eq_true c1) ?_
          rw [if_pos c1] at hbad
          rw [itemN_cons, if_pos c1] at hgood
          refine ⟨_, rfl, _, rfl, _, rfl, _, _, rfl, rfl, _, rfl, _, _, rfl, rfl, _, rfl, len_cps cps_SHUT (by decide), fun H6 q6 s6 hq6 hq6' => ?_⟩
          rw [cps_SHUT] at hq6'
          have s16 := s15.trans s6
          refine ⟨p, a, q6, i + 1, words, SHUT, ss, vals_eq p a q6 i d, by omega, hI.mono s16, SqL.of hq6', by omega, fun hno => ?_, fun x l z e => ?_⟩
          · refine (hbad ?_).mono s16
            dsimp only
            cases e : itemsN (lets (ss.map sgn)) d (some SHUT) (words.drop (i + 1)) with
            | none => rfl
            | some y =>
              obtain ⟨y, z⟩ := y
              cases y with
              | nil => rfl
              | cons x l => exact absurd e (hno x l z)
          · intro H7 q7 r us s7 hr7 hq7 hr7' hus
            dsimp only at hgood
            rw [e] at hgood
            dsimp only at hgood
            obtain ⟨k0, hk1, hk2⟩ := itemsN_drop e
            obtain ⟨p1, p2, p3⟩ := place_drop hk1 (by omega) hk2
            have s17 := s16.trans s7
            have I7 := hI.mono s17
            obtain ⟨r1, r2⟩ := times_rel (ss.map sgn) words (.group (.cons x l)) (spotOf words z) p2
            rw [← p1] at r1
            refine ⟨q7, _, rfl, SqT.of hq7, rfl, _, _, rfl, _, _, rfl, rfl, ?_⟩
            refine ⟨_, rfl, _, rfl, _, rfl, p, a, _, words, ss, rfl, I7.pat, I7.txt, I7.short, p2, fun H8 q8 c s8 hq8 hc0 hq8' hc => ?_⟩
            refine ⟨q8, _, rfl, SqT.of hq8', rfl, _, _, rfl, _, _, rfl, rfl, ?_⟩
            refine ⟨_, rfl, _, rfl, small' (by show 3 ≤ 16000000; decide), fun t3 ht3 => ⟨_, rfl, small' (by show 2 ≤ 16000000; decide), fun t2 ht2 => ?_⟩⟩
            have s9 : Same H8 (upd H8 t3 (.tup [.int 1, .ref r, .ref c])) := same_new ht3
            have s10 := same_put (o := .tup [.ref t3, .int ((timesR (ss.map sgn) words (spotOf words z)).2 : Int)]) s9 (s9.free ht2)
            have s18 := s17.trans s8
            refine hgood _ _ r1 _ t2 (.ref t3) (s18.trans s10) (by rw [upd_same, spot_drop r2]) ⟨t3, r, c, us, rfl, off_at (s18.free ht3) (put_at ht2 upd_same), off_at (s16.free hr7) (s10 _ _ (s8 _ _ hr7')), hus.mono fun b' o h => ?_, off_at (s17.free hc0) (s10 _ _ hc)⟩
            obtain ⟨h1, h2⟩ := off_some h
            exact off_at (s16.free h1) (s10 _ _ (s8 _ _ h2))
        · -- a fill
          have c2 : words[i] = BEGIN := by
            rcases c0 with c0 | c0
            · exact absurd c0 c1
            · exact c0
          refine if_false_of (decide_eq_false c1) ?_
          rw [if_neg c1, if_pos c2] at hbad
          rw [itemN_cons, if_neg c1, if_pos c2] at hgood
          refine ⟨_, rfl, _, rfl, _, rfl, _, _, rfl, rfl, _, rfl, _, _, rfl, rfl, _, rfl, len_cps cps_END (by decide), fun H6 q6 s6 hq6 hq6' => ?_⟩
          rw [cps_END] at hq6'
          have s16 := s15.trans s6
          refine ⟨p, a, q6, i + 1, words, END, ss, vals_eq p a q6 i d, by omega, hI.mono s16, SqL.of hq6', by omega, fun hno => ?_, fun x l z e => ?_⟩
          · refine (hbad ?_).mono s16
            dsimp only
            cases e : itemsN (lets (ss.map sgn)) d (some END) (words.drop (i + 1)) with
            | none => rfl
            | some y =>
              obtain ⟨y, z⟩ := y
              cases y with
              | nil => rfl
              | cons x l => exact absurd e (hno x l z)
          · intro H7 q7 r us s7 hr7 hq7 hr7' hus
            dsimp only at hgood hbad
            rw [e] at hgood hbad
            dsimp only at hgood hbad
            obtain ⟨k0, hk1, hk2⟩ := itemsN_drop e
            obtain ⟨p1, p2, p3⟩ := place_drop hk1 (by omega) hk2
            have s17 := s16.trans s7
            have I7 := hI.mono s17
            obtain ⟨xs, hx1, hx2⟩ := txts_len I7.txt
            refine ⟨q7, _, rfl, SqT.of hq7, rfl, _, _, rfl, _, _, rfl, rfl, ?_⟩
            refine ⟨_, rfl, _, _, rfl, rfl, _, rfl, a, xs, rfl, .inl (SqL.of hx1), _, _, rfl, rfl, _, rfl, ?_⟩
            rw [hx2]
            generalize hK : spotOf words z = kk at *
            by_cases c3 : words.length < kk + 2
            · refine if_true_of (decide_eq_true (by omega)) (if_true_of rfl ⟨_, _, rfl, ?_⟩)
              refine Errs.at_ (hbad ?_) s17
              have hz : z.length < 2 := by rw [p1, List.length_drop]; omega
              match z, hz with
              | [], _ => rfl
              | [_], _ => rfl
            · refine if_false_of (decide_eq_false (by omega)) ?_
              have hk1 : kk < words.length := by omega
              have hk2 : kk + 1 < words.length := by omega
              have w1 : words[kk]? = some words[kk] := List.getElem?_eq_getElem hk1
              have w2 : words[kk + 1]? = some words[kk + 1] := List.getElem?_eq_getElem hk2
              have ez : z = words[kk] :: words[kk + 1] :: words.drop (kk + 2) := by
                rw [p1, List.drop_eq_getElem_cons hk1, List.drop_eq_getElem_cons hk2]
              obtain ⟨ys1, b1, y1, y2, y3, y4⟩ := txts_get (K := K) I7.txt w1
              obtain ⟨ys2, b2, v1, v2, v3, v4⟩ := txts_get (K := K) I7.txt w2
              refine ⟨_, rfl, _, rfl, a, _, _, _, rfl, rfl, SqL.of y1, atI_nat y3, _, rfl, len_cps cps_to (by decide), fun H8 q8 s8 hq8 hq8' => ?_⟩
              rw [cps_to] at hq8'
              refine ⟨b1, q8, _, _, rfl, rfl, SqL.of (s8 _ _ y4), SqL.of hq8', _, rfl, ?_⟩
              rw [ez] at hbad hgood
              unfold fillIn at hbad hgood
              dsimp only at hbad hgood
              have s18 := s17.trans s8
              by_cases c4 : words[kk] = Vbktaa.word "to"
              · refine if_false_of (by rw [decide_eq_true c4]; rfl) ?_
                rw [if_pos c4] at hbad hgood
                have I8 := hI.mono s18
                refine ⟨_, rfl, _, rfl, _, rfl, _, rfl, _, _, rfl, rfl, a, _, _, _, rfl, rfl, SqL.of (s8 _ _ v1), atI_nat v3, p, b2, _, ss, rfl, I8.pat, SqL.of (s8 _ _ v4), hI.short _ (List.mem_of_getElem? w2), fun e9 => ?_, fun fm e9 H9 c s9 hc0 hc => ?_⟩
                · refine (hbad ?_).mono s18
                  rw [show Vbktaa.formOf (lets (ss.map sgn)) words[kk + 1] = none from e9]; rfl
                · rw [show Vbktaa.formOf (lets (ss.map sgn)) words[kk + 1] = some fm from e9] at hgood
                  have s19 := s18.trans s9
                  refine ⟨small' (by show 3 ≤ 16000000; decide), fun t3 ht3 => ⟨_, rfl, _, _, rfl, rfl, small' (by show 2 ≤ 16000000; decide), fun t2 ht2 => ?_⟩⟩
                  have t9 : Same H9 (upd H9 t3 (.tup [.int 2, .ref r, .ref c])) := same_new ht3
                  have t10 := same_put (o := .tup [.ref t3, .int ((kk : Int) + 2)]) t9 (t9.free ht2)
                  refine hgood _ _ rfl _ t2 (.ref t3) (s19.trans t10) (by rw [upd_same, spot_drop (by omega)]; rfl) ⟨t3, r, c, us, rfl, off_at (s19.free ht3) (put_at ht2 upd_same), off_at (s16.free hr7) (t10 _ _ (s9 _ _ (s8 _ _ hr7'))), hus.mono fun b' o h => ?_, off_at (s18.free hc0) (t10 _ _ hc)⟩
                  obtain ⟨h1, h2⟩ := off_some h
                  exact off_at (s16.free h1) (t10 _ _ (s9 _ _ (s8 _ _ h2)))
              · refine if_true_of (by rw [decide_eq_false c4]; rfl) ⟨_, _, rfl, ?_⟩
                rw [if_neg c4] at hbad
                exact Errs.at_ (hbad rfl) s18
    · have nO : words[i] ≠ OPEN := fun e => c0 (.inl e)
      have nB : words[i] ≠ BEGIN := fun e => c0 (.inr e)
      have eC : (!([OPEN, BEGIN] : List (List Nat)).contains words[i]) = true := by simp [nO, nB]
      refine if_true_of eC (if_true_of rfl ⟨_, _, rfl, ?_⟩)
      refine Errs.at_ (hbad ?_) s14
      rw [if_neg nO, if_neg nB, eS]
/-! ### all depths -/
theorem ok_items (T : Txt K mg) (R : RaiW P w K mg base) (Di : Def K mg "item_at" s_item_at) (Ds : Def K mg "items_at" s_items_at)
    (c_signs_of : Cal P w K mg base CX0 1 "signs_of" ["word"] spSigns) (c_stitch_of : Cal P w K mg base CX0 2 "stitch_of" ["word"] (spStitch K)) (c_times_at : Cal P w K mg base CX0 5 "times_at" ["pattern", "words", "at"] (spTimes K))
    (c_form_in : Cal P w K mg base (L2.CX P w) 5 "form_in" ["pattern", "word"] (spFormIn K)) : Cal P w K mg base (L2.CX P w) 13 "items_at" ["pattern", "words", "first", "deep", "last"] (spItems K 3) := by
  have n0 : Cal P w K mg base (L2.CX P w) 5 "items_at" ["pattern", "words", "first", "deep", "last"] (spItems0 K 0) :=
    Cal.never Ds (fun _ _ _ _ _ _ us hl => match us, hl with | [_, _, _, _, _], _ => rfl) (fun _ _ _ _ h => h)
  have a0 := ok_item_at (by decide) T R Di c_signs_of c_stitch_of c_times_at c_form_in n0
  have n1 : Cal P w K mg base (L2.CX P w) 7 "items_at" ["pattern", "words", "first", "deep", "last"] (spItems0 K 1) := ok_items_at (by decide) T R Ds a0
  have a1 := ok_item_at (by decide) T R Di c_signs_of c_stitch_of c_times_at c_form_in n1
  have n2 : Cal P w K mg base (L2.CX P w) 9 "items_at" ["pattern", "words", "first", "deep", "last"] (spItems0 K 2) := ok_items_at (by decide) T R Ds a1
  have a2 := ok_item_at (by decide) T R Di c_signs_of c_stitch_of c_times_at c_form_in n2
  have n3 : Cal P w K mg base (L2.CX P w) 11 "items_at" ["pattern", "words", "first", "deep", "last"] (spItems0 K 3) := ok_items_at (by decide) T R Ds a2
  have a3 := ok_item_at (by decide) T R Di c_signs_of c_stitch_of c_times_at c_form_in n3
  exact ok_items_at (by decide) T R Ds a3
end
end Kn
namespace Kn
open PySem PySem.Spec PyProof.Rows L2
open Vbktaa (Form Size Item Items idxOf NAMES)
theorem h10 {ss : List Size} (h : Named ss) : 10 ∉ ss.map sgn := fun m => by
  have := h.letters 10 m
  exact absurd this (by decide)
section
variable {P : Program} {w : World} {K : PySem.W.Frag} {mg : Str → Option Value} {base : Heap}
/-! ### number_between -/
def spBetween (K : PySem.W.Frag) : Sp := fun vs H Q E => ∃ (a : Addr) (t : List Nat) (l m : Int), vs = [.ref a, .int l, .int m] ∧ SqL K H a (VT t) ∧ t.length ≤ 3000 ∧
  (¬ (l ≤ numI t ∧ numI t ≤ m) → Errs K H E 0 1) ∧ (l ≤ numI t ∧ numI t ≤ m → ∀ H', Same H H' → Q (.int (numI t)) H')
theorem sc_number_between : FnScope ["word", "least", "most", "number"] ["word", "least", "most"] (defScope s_number_between) := ⟨rfl, rfl, rfl, by decide +kernel, rfl, by decide +kernel, by decide +kernel⟩
theorem ok_number_between (T : Txt K mg) (R : RaiW P w K mg base) (D : Def K mg "number_between" s_number_between) (c_number_of : Cal P w K mg base CX0 2 "number_of" ["word"] (spNumber K)) :
    Cal P w K mg base (L2.CX P w) 3 "number_between" ["word", "least", "most"] (spBetween K) := by
  have sc := sc_number_between
  refine Cal.mk' D sc (fun _ _ _ _ _ _ us hl => match us, hl with | [_, _, _], _ => rfl) (fun vs H Q E h => ?_) (fun f cdv A outer s H vs Q E hr h => ?_)
  · obtain ⟨_, _, _, _, rfl, _⟩ := h; rfl
  obtain ⟨a, t, l, m, rfl, hS, hl, hbad, hgood⟩ := h
  refine ⟨_, (pss_cons (ps_set (i := 3) sc.nd rfl (Or.inl rfl) (pe_f c_number_of hr pass0 (pa_cons (pv 0) pa_nil)))
    (pss_cons (ps_if (pt_not (pt_chain op_le op_le (pv 1) (pv 3) (pv 2))) (pss_one (ps_raise rfl (takes_of rfl rfl rfl rfl) (pmk_Wrong R hr (mono_cons mono_c (mono_cons mono_c mono_nil)) (pa_cons pe_int (pa_cons pe_int pa_nil))))) pss_nil)
    (pss_one (ps_ret (pv 3))))), ?_⟩
  refine ⟨_, rfl, a, t, rfl, hS, hl, fun H1 s1 => ⟨_, rfl, _, rfl, _, _, rfl, rfl, _, rfl, ?_⟩⟩
  by_cases c1 : l ≤ numI t
  · refine if_true_of (decide_eq_true c1) ⟨_, rfl, _, _, rfl, rfl, _, rfl, ?_⟩
    by_cases c2 : numI t ≤ m
    · refine if_false_of (by rw [decide_eq_true c2]; rfl) ⟨_, rfl, hgood ⟨c1, c2⟩ _ s1⟩
    · refine if_true_of (by rw [decide_eq_false c2]; rfl) ⟨_, _, rfl, (hbad fun z => c2 z.2).at_ s1⟩
  · refine if_false_of (decide_eq_false c1) ⟨_, rfl, if_true_of rfl ⟨_, _, rfl, (hbad fun z => c1 z.1).at_ s1⟩⟩
/-! ### is_name -/
def spName (K : PySem.W.Frag) : Sp := fun vs H Q _ => ∃ (a : Addr) (t : List Nat), vs = [.ref a] ∧ SqL K H a (VT t) ∧ t.length ≤ 3000 ∧ ∀ H', Same H H' → Q (.bl (Vbktaa.isName t)) H'
theorem sc_is_name : FnScope ["word", "byte"] ["word"] (defScope s_is_name) := ⟨rfl, rfl, rfl, by decide +kernel, rfl, by decide +kernel, by decide +kernel⟩
theorem ok_is_name (T : Txt K mg) (D : Def K mg "is_name" s_is_name) (c_is_digit : Cal P w K mg base CX0 1 "is_digit" ["byte"] (spByte Vbktaa.digit)) (c_is_letter : Cal P w K mg base CX0 1 "is_letter" ["byte"] (spByte Vbktaa.small)) :
    Cal P w K mg base CX0 2 "is_name" ["word"] (spName K) := by
  have sc := sc_is_name
  refine Cal.mk' D sc (fun _ _ _ _ _ _ us hl => match us, hl with | [_], _ => rfl) (fun vs H Q E h => ?_) (fun f cdv A outer s H vs Q E hr h => ?_)
  · obtain ⟨_, _, rfl, _⟩ := h; rfl
  obtain ⟨a, t, rfl, hS, hl, k⟩ := h
  refine ⟨_, PSs.nox (pss_one (ps_ret (pe_and (pe_chain op_le op_le pe_int (pe_callB call_len_seq (by rfl) T.f_len (by decide +kernel) (pa_cons (pv 0) pa_nil)) (pe_gi T.i_MOST_NAME)) (pe_one (pe_callB (cr_all rfl) (by rfl) T.f_all (by decide +kernel) (pa_cons (pe_lc (own := [("byte", 1)]) (g := gName 1) rfl sc.nd (pi_list (pv 0)) (blkOk_by (N := ["word", "byte"]) (sc := defScope s_is_name) (by decide +kernel)) (fun _ _ _ _ _ => (pg_name (i := 1) sc.nd rfl (Or.inl rfl))) (fun _ _ _ _ _ => pts_nil) (fun _ _ _ _ _ => (pe_or (pe_f c_is_letter hr pass0 (pa_cons (pv 1) pa_nil)) (pe_one (pe_f c_is_digit hr pass0 (pa_cons (pv 1) pa_nil)))))) pa_nil)))))), ?_⟩
  have eL : (VT t).length = t.length := VT_len t
  have nm : Vbktaa.isName t = (decide (1 ≤ t.length ∧ t.length ≤ 8) && t.all fun c => Vbktaa.small c || Vbktaa.digit c) := rfl
  refine ⟨_, rfl, a, _, rfl, .inl hS, _, _, rfl, rfl, _, rfl, ?_⟩
  by_cases c1 : (1 : Int) ≤ ((VT t).length : Int)
  · refine if_true_of (decide_eq_true c1) ⟨_, _, rfl, rfl, _, rfl, ?_⟩
    by_cases c2 : ((VT t).length : Int) ≤ 8
    · refine if_true_of (decide_eq_true c2) ?_
      rw [nm, decide_eq_true (show 1 ≤ t.length ∧ t.length ≤ 8 by omega), Bool.true_and] at k
      refine ⟨_, rfl, a, rfl, ⟨_, hS⟩, fun D hD => lc_it walk_list (fun i H' => Same H H' ∧ H' D = some (.lst ((t.take i).map fun n => V.bl (Vbktaa.small n || Vbktaa.digit n)))) ⟨same_new hD, upd_same⟩ (fun i H' _ q => q.1.seq hS) ?_ ?_⟩
      · rintro i x H1 H2 hi ⟨s1, hd⟩ ⟨rfl, hx⟩
        obtain ⟨n, hn, rfl⟩ := VT_get hx
        refine ⟨rfl, _, rfl, n, rfl, _, rfl, ?_⟩
        have fin : ∀ b : Bool, b = (Vbktaa.small n || Vbktaa.digit n) → Same H (upd H2 D (.lst ((t.take i).map (fun n => V.bl (Vbktaa.small n || Vbktaa.digit n)) ++ [V.bl b]))) ∧ upd H2 D (.lst ((t.take i).map (fun n => V.bl (Vbktaa.small n || Vbktaa.digit n)) ++ [V.bl b])) D = some (.lst ((t.take (i + 1)).map fun n => V.bl (Vbktaa.small n || Vbktaa.digit n))) := fun b e => by
          refine ⟨same_put s1 hD, ?_⟩
          rw [upd_same, take_more hn, List.map_append, e]; rfl
        have hsz : ((t.take i).map fun n => V.bl (Vbktaa.small n || Vbktaa.digit n)).length < sizeLine := small (by rw [List.length_map, List.length_take]; omega)
        cases es : Vbktaa.small n with
        | true => exact if_true_of rfl ⟨_, hd, hsz, fin true (by rw [es]; rfl)⟩
        | false => exact if_false_of rfl ⟨_, rfl, n, rfl, _, hd, hsz, fin _ (by rw [es]; rfl)⟩
      · rintro H1 ⟨s1, hd⟩
        rw [eL, take_all] at hd
        have hd' : H1 D = some (.lst ((t.map fun n => Vbktaa.small n || Vbktaa.digit n).map V.bl)) := by rw [hd, List.map_map]; rfl
        refine ⟨D, _, rfl, SqL.of hd', ?_⟩
        rw [List.all_map]
        exact k H1 s1
    · refine if_false_of (decide_eq_false c2) ?_
      rw [nm, decide_eq_false (show ¬ (1 ≤ t.length ∧ t.length ≤ 8) by omega), Bool.false_and] at k
      exact k H (Same.refl H)
  · refine if_false_of (decide_eq_false c1) ?_
    rw [nm, decide_eq_false (show ¬ (1 ≤ t.length ∧ t.length ≤ 8) by omega), Bool.false_and] at k
    exact ⟨_, rfl, k H (Same.refl H)⟩
end
end Kn
namespace Kn
open PySem PySem.Spec PyProof.Rows L2
open Vbktaa (Form Size Item Items Part Parts idxOf NAMES rowIn)
section
variable {P : Program} {w : World} {K : PySem.W.Frag} {mg : Str → Option Value} {base : Heap}
/-! ### row_items -/
def spRowItems (K : PySem.W.Frag) : Sp := fun vs H Q E => ∃ (p a : Addr) (words : List (List Nat)) (ss : List Size), vs = [.ref p, .ref a] ∧ PatL K H p ss ∧ TxtsAt H a words ∧ Short words ∧ 3 ≤ words.length ∧ words.length ≤ 40 ∧ [10] ∉ words ∧
  (rowIn (lets (ss.map sgn)) (words.drop 2) = none → Errs K H E 0 1) ∧
  ∀ l, rowIn (lets (ss.map sgn)) (words.drop 2) = some l → ∀ (H' : Hp) (q : Addr) (us : List V), Same H H' → H q = none → H' q = some (.lst us) → ItemsAt (Off H H') l us → Q (.ref q) H'
theorem sc_row_items : FnScope ["pattern", "words", "items", "behind"] ["pattern", "words"] (defScope s_row_items) := ⟨rfl, rfl, rfl, by decide +kernel, rfl, by decide +kernel, by decide +kernel⟩
theorem ok_row_items (T : Txt K mg) (D : Def K mg "row_items" s_row_items) (c_items_at : Cal P w K mg base (L2.CX P w) 13 "items_at" ["pattern", "words", "first", "deep", "last"] (spItems K 3)) :
    Cal P w K mg base (L2.CX P w) 14 "row_items" ["pattern", "words"] (spRowItems K) := by
  have sc := sc_row_items
  refine Cal.mk' D sc (fun _ _ _ _ _ _ us hl => match us, hl with | [_, _], _ => rfl) (fun vs H Q E h => ?_) (fun f cdv A outer s H vs Q E hr h => ?_)
  · obtain ⟨_, _, _, _, rfl, _⟩ := h; rfl
  obtain ⟨p, a, words, ss, rfl, hP, hW, hsh, h3, h40, hn10, hbad, hgood⟩ := h
  refine ⟨_, (pss_cons (ps_asg (pe_f c_items_at hr passR (pa_cons (pv 0) (pa_cons (pe_op op_cat (pv 1) (pe_lst (pa_cons (pe_lst (pa_cons (pe_gi T.i_LINE_END) pa_nil)) pa_nil))) (pa_cons pe_int (pa_cons pe_int (pa_cons (pe_lst (pa_cons (pe_gi T.i_LINE_END) pa_nil)) pa_nil)))))) (pg_tup rfl (pgs_cons (pg_name (i := 2) sc.nd rfl (Or.inl rfl)) (pgs_cons (pg_name (i := 3) sc.nd rfl (Or.inl rfl)) pgs_nil))))
    (pss_one (ps_ret (pv 2)))), ?_⟩
  obtain ⟨as, hw1, hw2⟩ := hW
  have hlen := paired_len hw2
  refine ⟨_, rfl, _, rfl, small' (by show 1 ≤ 16000000; decide), fun n1 hn1 => ⟨small' (by show 1 ≤ 16000000; decide), fun n2 hn2 => ?_⟩⟩
  have s1 : Same H (upd H n1 (.lst [.int 10])) := same_new hn1
  have s2 := same_put (o := .lst [.ref n1]) s1 (s1.free hn2)
  refine ⟨a, n2, _, [.ref n1], rfl, rfl, s2 _ _ hw1, upd_same, small' (by rw [List.length_map]; simp; omega), fun c hc => ?_⟩
  have s3 := same_put (o := .lst (as.map V.ref ++ [.ref n1])) s2 (s2.free hc)
  refine ⟨small' (by show 1 ≤ 16000000; decide), fun e he => ?_⟩
  have s4 := same_put (o := .lst [.int 10]) s3 (s3.free he)
  have hT : TxtsAt (upd (upd (upd (upd H n1 (.lst [.int 10])) n2 (.lst [.ref n1])) c (.lst (as.map V.ref ++ [.ref n1]))) e (.lst [.int 10])) c (words ++ [[10]]) := by
    refine ⟨as ++ [n1], ?_, ?_⟩
    · rw [List.map_append]; exact put_at he upd_same
    · exact txtl_snoc (put_at he (put_at hc (put_at hn2 upd_same))) (hw2.mono s4)
  have hdrop : (words ++ [[10]]).drop 2 = words.drop 2 ++ [[10]] := List.drop_append_of_le_length (by omega)
  have hrow := rowIn_tail (h10 hP.named) (ws := words.drop 2) (fun m => hn10 (List.mem_of_mem_drop m))
  rw [← hdrop] at hrow
  refine ⟨p, c, e, 2, words ++ [[10]], [10], ss, rfl, by decide, ⟨hP.mono s4, hT, ?_, ?_⟩, SqL.of upd_same, ?_, fun hno => ?_, fun x l z ez => ?_⟩
  · intro t ht
    rcases List.mem_append.mp ht with m | m
    · exact hsh t m
    · rw [List.mem_singleton.mp m]; decide
  · simp; omega
  · simp; omega
  · refine (hbad ?_).mono s4
    rw [hrow]
    cases ez : itemsN (lets (ss.map sgn)) 3 (some [10]) ((words ++ [[10]]).drop 2) with
    | none => rfl
    | some y =>
      obtain ⟨y, z⟩ := y
      cases y with
      | nil => rfl
      | cons x l => exact absurd ez (hno x l z)
  · intro H1 q r us s5 hr0 hq hr1 hus
    rw [ez] at hrow
    refine ⟨q, _, rfl, SqT.of hq, rfl, _, _, rfl, _, _, rfl, rfl, ?_⟩
    exact ⟨_, rfl, hgood _ hrow H1 r us (s4.trans s5) (s4.free hr0) hr1 (hus.mono (off_down s4))⟩
/-! ### the state while a text is read -/
def patF (la ca ra pa : Addr) : List (Str × V) := [("letters", .ref la), ("cast", .ref ca), ("rows", .ref ra), ("parts", .ref pa)]
def RowAt (F : Hp) (a : Addr) (x : List Nat × Items) : Prop := ∃ n q us, F a = some (.tup [.ref n, .ref q]) ∧ F n = some (.lst (VT x.1)) ∧ F q = some (.lst us) ∧ ItemsAt F x.2 us
theorem RowAt.mono {F G : Hp} {a : Addr} {x : List Nat × Items} (s : Same F G) (h : RowAt F a x) : RowAt G a x := by
  obtain ⟨n, q, us, h1, h2, h3, h4⟩ := h
  exact ⟨n, q, us, s _ _ h1, s _ _ h2, s _ _ h3, h4.mono s⟩
mutual
def PartAt (F : Hp) : Part → V → Prop
  | .row k _ _ => fun v => ∃ t e1 e2, v = .ref t ∧ F t = some (.tup [.int (k : Int), .ref e1, .ref e2])
  | .again f l => fun v => ∃ t q b us, v = .ref t ∧ F t = some (.tup [.int (-1), .ref q, .ref b]) ∧ F q = some (.lst us) ∧ PartsAt F l us ∧ FormAt F b f
def PartsAt (F : Hp) : Parts → List V → Prop
  | .nil => fun vs => vs = []
  | .cons p r => fun vs => ∃ v us, vs = v :: us ∧ PartAt F p v ∧ PartsAt F r us
end
mutual
theorem PartAt.mono {H H' : Hp} (s : Same H H') : ∀ {i : Part} {v : V}, PartAt H i v → PartAt H' i v
  | .row _ _ _, _, ⟨t, e1, e2, e, h1⟩ => ⟨t, e1, e2, e, s _ _ h1⟩
  | .again _ _, _, ⟨t, q, b, us, e, h1, h2, h3, h4⟩ => ⟨t, q, b, us, e, s _ _ h1, s _ _ h2, PartsAt.mono s h3, h4.mono s⟩
theorem PartsAt.mono {H H' : Hp} (s : Same H H') : ∀ {l : Parts} {vs : List V}, PartsAt H l vs → PartsAt H' l vs
  | .nil, _, h => h
  | .cons _ _, _, ⟨v, us, e, h1, h2⟩ => ⟨v, us, e, PartAt.mono s h1, PartsAt.mono s h2⟩
end
theorem parts_snoc {H : Hp} {i : Part} {v : V} (h : PartAt H i v) : ∀ {l : Parts} {vs : List V}, PartsAt H l vs → PartsAt H (appP l (.cons i .nil)) (vs ++ [v])
  | .nil, vs, e => by
    have e : vs = [] := e
    subst e
    exact ⟨v, [], rfl, h, rfl⟩
  | .cons j r, _, ⟨u, us, e, h1, h2⟩ => by
    subst e
    exact ⟨u, us ++ [v], rfl, h1, parts_snoc h h2⟩
def nilP : Parts → Bool
  | .nil => true
  | .cons _ _ => false
theorem parts_nil {H : Hp} : ∀ {l : Parts} {vs : List V}, PartsAt H l vs → vs.isEmpty = nilP l
  | .nil, vs, h => by
    have e : vs = [] := h
    rw [e]; rfl
  | .cons p r, vs, h => by
    obtain ⟨v, us, e, _⟩ := h
    rw [e]; rfl
/-- a frame, and what has come new -/
def Grow (F H H' : Hp) : Hp := fun b => match H b with
  | none => H' b
  | some _ => F b
theorem grow_same {F H H' : Hp} (s : Same F H) : Same F (Grow F H H') := fun b o h => by
  unfold Grow
  rw [s b o h]; exact h
theorem grow_in {F H H' : Hp} (s : Same F H) (s' : Same H H') : Same (Grow F H H') H' := fun b o h => by
  unfold Grow at h
  cases e : H b with
  | none => rw [e] at h; exact h
  | some u => rw [e] at h; exact s' _ _ (s _ _ h)
theorem grow_none {F H H' : Hp} {b : Addr} {o : HO} (h : H b = some o) (n : F b = none) : Grow F H H' b = none := by
  unfold Grow
  rw [h]; exact n
theorem grow_new {F H H' : Hp} {b : Addr} (h : H b = none) : Grow F H H' b = H' b := by
  unfold Grow
  rw [h]
theorem grow_off {F H H' : Hp} : Same (Off H H') (Grow F H H') := fun b o h => by
  obtain ⟨h1, h2⟩ := off_some h
  rw [grow_new h1]; exact h2
end
end Kn
namespace Kn
open PySem PySem.Spec PyProof.Rows L2
open Vbktaa (Form Size Item Items Part Parts idxOf NAMES rowIn)
section
variable {K : PySem.W.Frag}
/-! ### while letters are told: the pattern's letters grow -/
structure HeadS (K : PySem.W.Frag) (F0 F H : Hp) (p W : Addr) (ss : List Size) : Prop where
  ex : ∃ (dx la ca ra pa t0 e0 : Addr) (as : List Addr), H p = some (.ins (He.ga K "Pattern") dx (patF la ca ra pa)) ∧ F p = none ∧ H la = some (.lst (as.map V.ref)) ∧ F la = none ∧ Paired (LetAt F) as ss ∧
    F ca = some (.lst []) ∧ F ra = some (.lst []) ∧ F pa = some (.lst []) ∧ ra ≠ pa ∧ F W = some (.lst [.ref t0]) ∧ F t0 = some (.tup [.int 0, .ref pa, .ref e0]) ∧ F0 ra = none ∧ F0 pa = none ∧ F0 W = none
  named : Named ss
  len : ss.length ≤ 2
  s0 : Same F0 F
  s1 : Same F H
/-- an open block: its place among those within, its list of parts -/
structure Ob where
  t : Addr
  bp : Addr
  b : Blk
def ObAt (F H : Hp) (m : Nat) (x : Ob) : Prop := ∃ fb us, F x.t = some (.tup [.int (x.b.line : Int), .ref x.bp, .ref fb]) ∧ FormAt F fb x.b.form ∧ H x.bp = some (.lst us) ∧ PartsAt F x.b.parts us ∧ us.length ≤ m
/-- behind the cast: rows, parts and open blocks grow -/
structure BodyS (K : PySem.W.Frag) (F0 F H : Hp) (p W : Addr) (ss : List Size) (c : Form) (rows : List (List Nat × Items)) (o : Open) (m : Nat) : Prop where
  ex : ∃ (dx la ca ra pa t0 e0 : Addr) (as rs : List Addr) (obs : List Ob) (us0 : List V), F p = some (.ins (He.ga K "Pattern") dx (patF la ca ra pa)) ∧ F la = some (.lst (as.map V.ref)) ∧ Paired (LetAt F) as ss ∧ FormAt F ca c ∧
    H ra = some (.lst (rs.map V.ref)) ∧ Paired (RowAt F) rs rows ∧ H W = some (.lst (V.ref t0 :: (obs.reverse.map fun x => V.ref x.t))) ∧ F t0 = some (.tup [.int 0, .ref pa, .ref e0]) ∧ H pa = some (.lst us0) ∧ PartsAt F o.base us0 ∧ us0.length ≤ m ∧
    o.blks = obs.map Ob.b ∧ (∀ x ∈ obs, ObAt F H m x) ∧ (∀ x ∈ ra :: W :: pa :: obs.map Ob.bp, F x = none) ∧ (ra :: W :: pa :: obs.map Ob.bp).Nodup
  named : Named ss
  len : ss.length ≤ 2
  s0 : Same F0 F
  s1 : Same F H
theorem HeadS.pat {F0 F H : Hp} {p W : Addr} {ss : List Size} (h : HeadS K F0 F H p W ss) : PatL K H p ss := by
  obtain ⟨dx, la, ca, ra, pa, t0, e0, as, h1, h2, h3, h4, h5, _⟩ := h.ex
  exact ⟨⟨dx, _, la, as, h1, rfl, rfl, h3, paired_mono (fun _ _ r => h.s1 _ _ r) h5⟩, h.named, Nat.le_trans h.len (by decide)⟩
theorem BodyS.pat {F0 F H : Hp} {p W : Addr} {ss : List Size} {c : Form} {rows : List (List Nat × Items)} {o : Open} {m : Nat} (h : BodyS K F0 F H p W ss c rows o m) : PatL K H p ss := by
  obtain ⟨dx, la, ca, ra, pa, t0, e0, as, rs, obs, us0, h1, h2, h3, _⟩ := h.ex
  exact ⟨⟨dx, _, la, as, h.s1 _ _ h1, rfl, rfl, h.s1 _ _ h2, paired_mono (fun _ _ r => h.s1 _ _ r) h3⟩, h.named, Nat.le_trans h.len (by decide)⟩
theorem HeadS.grow {F0 F H H' : Hp} {p W : Addr} {ss : List Size} (h : HeadS K F0 F H p W ss) (s : Same H H') : HeadS K F0 (Grow F H H') H' p W ss := by
  obtain ⟨dx, la, ca, ra, pa, t0, e0, as, h1, h2, h3, h4, h5, h6, h7, h8, h9, h10, h11, h12⟩ := h.ex
  have g := grow_same (H' := H') h.s1
  exact ⟨⟨dx, la, ca, ra, pa, t0, e0, as, s _ _ h1, grow_none h1 h2, s _ _ h3, grow_none h3 h4, paired_mono (fun _ _ r => g _ _ r) h5, g _ _ h6, g _ _ h7, g _ _ h8, h9, g _ _ h10, g _ _ h11, h12⟩, h.named, h.len, h.s0.trans g, grow_in h.s1 s⟩
theorem BodyS.grow {F0 F H H' : Hp} {p W : Addr} {ss : List Size} {c : Form} {rows : List (List Nat × Items)} {o : Open} {m : Nat} (h : BodyS K F0 F H p W ss c rows o m) (s : Same H H') : BodyS K F0 (Grow F H H') H' p W ss c rows o m := by
  obtain ⟨dx, la, ca, ra, pa, t0, e0, as, rs, obs, us0, h1, h2, h3, h4, h5, h6, h7, h8, h9, h10, hl, h11, h12, h13, h14⟩ := h.ex
  have g := grow_same (H' := H') h.s1
  refine ⟨⟨dx, la, ca, ra, pa, t0, e0, as, rs, obs, us0, g _ _ h1, g _ _ h2, paired_mono (fun _ _ r => g _ _ r) h3, h4.mono g, s _ _ h5, paired_mono (fun _ _ r => r.mono g) h6, s _ _ h7, g _ _ h8, s _ _ h9, h10.mono g, hl, h11, fun x hx => ?_, fun m hm => ?_, h14⟩, h.named, h.len, h.s0.trans g, grow_in h.s1 s⟩
  · obtain ⟨fb, us, k1, k2, k3, k4, k5⟩ := h12 x hx
    exact ⟨fb, us, g _ _ k1, k2.mono g, s _ _ k3, k4.mono g, k5⟩
  · have hn := h13 m hm
    have hs : ∃ o, H m = some o := by
      rcases List.mem_cons.mp hm with e | hm
      · exact ⟨_, e ▸ h5⟩
      · rcases List.mem_cons.mp hm with e | hm
        · exact ⟨_, e ▸ h7⟩
        · rcases List.mem_cons.mp hm with e | hm
          · exact ⟨_, e ▸ h9⟩
          · obtain ⟨x, hx, e⟩ := List.mem_map.mp hm
            obtain ⟨fb, us, k1, k2, k3, k4, k5⟩ := h12 x hx
            exact ⟨_, e ▸ k3⟩
    obtain ⟨o, ho⟩ := hs
    exact grow_none ho hn
/-- a letter more -/
theorem HeadS.add {F0 F H : Hp} {p W la b dx : Addr} {ss : List Size} {fs : List (Str × V)} {xs : List V} {z : Size} (h : HeadS K F0 F H p W ss) (hp : H p = some (.ins (He.ga K "Pattern") dx fs)) (hf : fs.lookup ("letters" : Str) = some (.ref la)) (hl : H la = some (.lst xs)) (hb : LetAt F b z) (hz : ∃ n, z.name = [n] ∧ Vbktaa.small n = true) (hlen : ss.length < 2) :
    HeadS K F0 F (upd H la (.lst (xs ++ [.ref b]))) p W (ss ++ [z]) := by
  obtain ⟨dx', la', ca, ra, pa, t0, e0, as, h1, h2, h3, h4, h5, h6⟩ := h.ex
  rw [h1] at hp
  cases hp
  have e : V.ref la' = V.ref la := Option.some.inj hf
  cases e
  rw [h3] at hl
  cases hl
  refine ⟨⟨dx, la, ca, ra, pa, t0, e0, as ++ [b], ?_, h2, ?_, h4, paired_snoc hb h5, h6⟩, ?_, ?_, h.s0, fun b' o q => ?_⟩
  · rw [upd_ne (fun e => by rw [e, h3] at h1; cases h1)]; exact h1
  · rw [upd_same, List.map_append]; rfl
  · intro s hs
    rcases List.mem_append.mp hs with m | m
    · exact h.named s m
    · rw [List.mem_singleton.mp m]; exact hz
  · rw [List.length_append, List.length_singleton]; omega
  · rw [upd_ne (ne_of_none q h4)]; exact h.s1 _ _ q
/-- the cast -/
theorem HeadS.cast {F0 F H : Hp} {p W dx ca b : Addr} {ss : List Size} {c : Form} {la ra pa : Addr} (h : HeadS K F0 F H p W ss) (hp : H p = some (.ins (He.ga K "Pattern") dx (patF la ca ra pa))) (hb : FormAt F b c) :
    ∃ F', BodyS K F0 F' (upd H p (.ins (He.ga K "Pattern") dx (patF la b ra pa))) p W ss c [] ⟨[], .nil⟩ 0 := by
  obtain ⟨dx', la', ca', ra', pa', t0, e0, as, h1, h2, h3, h4, h5, h6, h7, h8, h9, h10, h11, h12, h13, h14⟩ := h.ex
  rw [h1] at hp
  cases hp
  have nW : W ≠ ra := fun e => by rw [e, h7] at h10; cases h10
  have nW2 : W ≠ pa := fun e => by rw [e, h8] at h10; cases h10
  have npra : p ≠ ra := fun e => by rw [e, h7] at h2; cases h2
  have nppa : p ≠ pa := fun e => by rw [e, h8] at h2; cases h2
  have npW : p ≠ W := fun e => by rw [e, h10] at h2; cases h2
  have npla : p ≠ la := fun e => by rw [e, h3] at h1; cases h1
  have nlra : la ≠ ra := fun e => by rw [e, h7] at h4; cases h4
  have nlpa : la ≠ pa := fun e => by rw [e, h8] at h4; cases h4
  have nlW : la ≠ W := fun e => by rw [e, h10] at h4; cases h4
  -- what stays
  have stay : ∀ x o, F x = some o → x ≠ ra → x ≠ pa → x ≠ W → upd (upd (del (del (del F ra) pa) W) p (.ins (He.ga K "Pattern") dx (patF la b ra pa))) la (.lst (as.map V.ref)) x = some o := by
    intro x o hx n1 n2 n3
    rw [upd_ne (fun e => by rw [e, h4] at hx; cases hx), upd_ne (fun e => by rw [e, h2] at hx; cases hx), del_ne n3, del_ne n2, del_ne n1]
    exact hx
  have gone : ∀ x, x = ra ∨ x = pa ∨ x = W → upd (upd (del (del (del F ra) pa) W) p (.ins (He.ga K "Pattern") dx (patF la b ra pa))) la (.lst (as.map V.ref)) x = none := by
    intro x hx
    rcases hx with e | e | e
    · subst e
      rw [upd_ne (Ne.symm nlra), upd_ne (Ne.symm npra), del_ne (Ne.symm nW), del_ne h9, del_same]
    · subst e
      rw [upd_ne (Ne.symm nlpa), upd_ne (Ne.symm nppa), del_ne (Ne.symm nW2), del_same]
    · subst e
      rw [upd_ne (Ne.symm nlW), upd_ne (Ne.symm npW), del_same]
  have tups : ∀ x xs, F x = some (.tup xs) → x ≠ ra ∧ x ≠ pa ∧ x ≠ W := fun x xs hx =>
    ⟨fun e => (by rw [e, h7] at hx; cases hx), fun e => (by rw [e, h8] at hx; cases hx), fun e => (by rw [e, h10] at hx; cases hx)⟩
  refine ⟨upd (upd (del (del (del F ra) pa) W) p (.ins (He.ga K "Pattern") dx (patF la b ra pa))) la (.lst (as.map V.ref)),
    ⟨dx, la, b, ra, pa, t0, e0, as, [], [], [], ?_, upd_same, paired_mono (fun a s r => ?_) h5, ?_, ?_, .nil, ?_, ?_, ?_, rfl, by simp, rfl, fun x hx => absurd hx (List.not_mem_nil), fun m hm => ?_, ?_⟩, h.named, h.len, fun x o hx => ?_, fun x o hx => ?_⟩
  · rw [upd_ne npla, upd_same]
  · obtain ⟨n1, n2, n3⟩ := tups _ _ r
    exact stay _ _ r n1 n2 n3
  · unfold FormAt at hb ⊢
    have e : (fL c).map V.int = V.int c.c :: c.l.map V.int := rfl
    exact stay _ _ hb (fun e => by rw [e, h7] at hb; cases hb) (fun e => by rw [e, h8] at hb; cases hb) (fun e => by rw [e, h10] at hb; cases hb)
  · rw [upd_ne (Ne.symm npra)]; exact h.s1 _ _ h7
  · rw [upd_ne (Ne.symm npW)]; exact h.s1 _ _ h10
  · obtain ⟨n1, n2, n3⟩ := tups _ _ h11
    exact stay _ _ h11 n1 n2 n3
  · rw [upd_ne (Ne.symm nppa)]; exact h.s1 _ _ h8
  · simp only [List.map_nil, List.mem_cons, List.not_mem_nil, or_false] at hm
    exact gone m (hm.elim .inl fun q => q.elim (fun q => .inr (.inr q)) fun q => .inr (.inl q))
  · simp only [List.map_nil, List.nodup_cons, List.mem_cons, List.not_mem_nil, or_false, not_false_eq_true, List.nodup_nil, and_true]
    exact ⟨fun q => q.elim (Ne.symm nW) h9, nW2⟩
  · have hF := h.s0 _ _ hx
    exact stay _ _ hF (fun e => by rw [e, h12] at hx; cases hx) (fun e => by rw [e, h13] at hx; cases hx) (fun e => by rw [e, h14] at hx; cases hx)
  · by_cases e1 : x = la
    · rw [e1, upd_same] at hx
      rw [e1, upd_ne (Ne.symm npla), h3]; exact hx
    · rw [upd_ne e1] at hx
      by_cases e2 : x = p
      · rw [e2, upd_same] at hx
        rw [e2, upd_same]; exact hx
      · rw [upd_ne e2] at hx
        rw [upd_ne e2]
        by_cases e3 : x = W
        · rw [e3, del_same] at hx; cases hx
        · rw [del_ne e3] at hx
          by_cases e4 : x = pa
          · rw [e4, del_same] at hx; cases hx
          · rw [del_ne e4] at hx
            by_cases e5 : x = ra
            · rw [e5, del_same] at hx; cases hx
            · rw [del_ne e5] at hx
              exact h.s1 _ _ hx
theorem atI_end {xs : List V} {x : V} : atI (xs ++ [x]) (-1) = some x := atI_last _ _
/-- the innermost place -/
theorem BodyS.inner {F0 F H : Hp} {p W : Addr} {ss : List Size} {c : Form} {rows : List (List Nat × Items)} {o : Open} {m : Nat} (h : BodyS K F0 F H p W ss c rows o m) :
    ∃ xs t l bp fb us, H W = some (.lst xs) ∧ xs.length = o.blks.length + 1 ∧ atI xs (-1) = some (.ref t) ∧ F t = some (.tup [.int l, .ref bp, .ref fb]) ∧ H bp = some (.lst us) ∧ us.length ≤ m := by
  obtain ⟨dx, la, ca, ra, pa, t0, e0, as, rs, obs, us0, h1, h2, h3, h4, h5, h6, h7, h8, h9, h10, hl, h11, h12, h13, h14⟩ := h.ex
  have hlen : (V.ref t0 :: (obs.reverse.map fun x => V.ref x.t)).length = o.blks.length + 1 := by rw [h11]; simp
  cases obs with
  | nil => exact ⟨_, t0, 0, pa, e0, us0, h7, hlen, rfl, h8, h9, hl⟩
  | cons x r =>
    obtain ⟨fb, us, k1, k2, k3, k4, k5⟩ := h12 x (List.mem_cons_self ..)
    refine ⟨_, x.t, _, x.bp, fb, us, h7, hlen, ?_, k1, k3, k5⟩
    rw [List.reverse_cons, List.map_append, ← List.cons_append]
    exact atI_end
/-- a part more -/
theorem BodyS.push {F0 F H : Hp} {p W : Addr} {ss : List Size} {c : Form} {rows : List (List Nat × Items)} {o : Open} {m : Nat} (h : BodyS K F0 F H p W ss c rows o m) {xs us : List V} {t bp fb : Addr} {l v : V} {q : Part}
    (hW : H W = some (.lst xs)) (ht : atI xs (-1) = some (.ref t)) (hF : F t = some (.tup [l, .ref bp, .ref fb])) (hb : H bp = some (.lst us)) (hv : PartAt F q v) : BodyS K F0 F (upd H bp (.lst (us ++ [v]))) p W ss c rows (o.push q) (m + 1) := by
  obtain ⟨dx, la, ca, ra, pa, t0, e0, as, rs, obs, us0, h1, h2, h3, h4, h5, h6, h7, h8, h9, h10, hl, h11, h12, h13, h14⟩ := h.ex
  rw [h7] at hW
  cases hW
  have nF : F bp = none → Same F (upd H bp (.lst (us ++ [v]))) := fun n x o hx => by rw [upd_ne (ne_of_none hx n)]; exact h.s1 _ _ hx
  simp only [List.nodup_cons, List.mem_cons, not_or] at h14
  obtain ⟨⟨n1, n2, n3⟩, ⟨n4, n5⟩, n6, n7⟩ := h14
  cases obs with
  | nil =>
    have e : t0 = t := by
      have : atI [V.ref t0] (-1) = some (V.ref t0) := rfl
      have e2 := this.symm.trans ht
      exact V.ref.inj (Option.some.inj e2)
    subst e
    rw [h8] at hF
    cases hF
    rw [h9] at hb
    cases hb
    have eo : o.push q = ⟨[], appP o.base (.cons q .nil)⟩ := by
      unfold Open.push
      rw [h11]; rfl
    rw [eo]
    refine ⟨⟨dx, la, ca, ra, bp, t0, fb, as, rs, [], us ++ [v], h1, h2, h3, h4, ?_, h6, ?_, h8, upd_same, parts_snoc hv h10, ?_, rfl, fun x hx => absurd hx (List.not_mem_nil), h13, ?_⟩, h.named, h.len, h.s0, nF (h13 bp (by simp))⟩
    · rw [upd_ne n2]; exact h5
    · rw [upd_ne n4]; exact h7
    · rw [List.length_append, List.length_singleton]; omega
    · simp only [List.nodup_cons, List.mem_cons, not_or]
      exact ⟨⟨n1, n2, n3⟩, ⟨n4, n5⟩, n6, n7⟩
  | cons x r =>
    have e : x.t = t := by
      rw [List.reverse_cons, List.map_append, ← List.cons_append] at ht
      have e2 := (atI_end (x := V.ref x.t)).symm.trans ht
      exact V.ref.inj (Option.some.inj e2)
    subst e
    obtain ⟨fb', us', k1, k2, k3, k4, k5⟩ := h12 x (List.mem_cons_self ..)
    rw [k1] at hF
    cases hF
    rw [k3] at hb
    cases hb
    rw [List.map_cons] at n3 n5 n6 n7 h13
    simp only [List.mem_cons, not_or] at n3 n5 n6
    simp only [List.nodup_cons] at n7
    have eo : o.push q = ⟨{ x.b with parts := appP x.b.parts (.cons q .nil) } :: r.map Ob.b, o.base⟩ := by
      unfold Open.push
      rw [h11]; rfl
    rw [eo]
    refine ⟨⟨dx, la, ca, ra, pa, t0, e0, as, rs, ⟨x.t, x.bp, { x.b with parts := appP x.b.parts (.cons q .nil) }⟩ :: r, us0, h1, h2, h3, h4, ?_, h6, ?_, h8, ?_, h10, by omega, rfl, fun y hy => ?_, h13, ?_⟩, h.named, h.len, h.s0, nF (h13 x.bp (by simp))⟩
    · rw [upd_ne n3.1]; exact h5
    · rw [upd_ne n5.1, h7]
      simp
    · rw [upd_ne n6.1]; exact h9
    · rcases List.mem_cons.mp hy with e | hy
      · rw [e]
        refine ⟨fb, us ++ [v], k1, k2, upd_same, parts_snoc hv k4, ?_⟩
        rw [List.length_append, List.length_singleton]; omega
      · obtain ⟨fb2, us2, y1, y2, y3, y4, y5⟩ := h12 y (List.mem_cons_of_mem _ hy)
        refine ⟨fb2, us2, y1, y2, ?_, y4, by omega⟩
        rw [upd_ne (fun e => n7.1 (by rw [← e]; exact List.mem_map_of_mem hy))]
        exact y3
    · simp only [List.map_cons, List.nodup_cons, List.mem_cons, not_or]
      exact ⟨⟨n1, n2, n3⟩, ⟨n4, n5⟩, n6, n7⟩
/-- a row more -/
theorem BodyS.row {F0 F H : Hp} {p W : Addr} {ss : List Size} {c : Form} {rows : List (List Nat × Items)} {o : Open} {m : Nat} (h : BodyS K F0 F H p W ss c rows o m) {dx ra a : Addr} {fs : List (Str × V)} {ys : List V} {x : List Nat × Items}
    (hp : H p = some (.ins (He.ga K "Pattern") dx fs)) (hf : fs.lookup ("rows" : Str) = some (.ref ra)) (hr : H ra = some (.lst ys)) (hx : RowAt F a x) : BodyS K F0 F (upd H ra (.lst (ys ++ [.ref a]))) p W ss c (rows ++ [x]) o m := by
  obtain ⟨dx', la, ca, ra', pa, t0, e0, as, rs, obs, us0, h1, h2, h3, h4, h5, h6, h7, h8, h9, h10, hl, h11, h12, h13, h14⟩ := h.ex
  rw [h.s1 _ _ h1] at hp
  cases hp
  have e : V.ref ra' = V.ref ra := Option.some.inj hf
  cases e
  rw [h5] at hr
  cases hr
  have h14' := h14
  simp only [List.nodup_cons, List.mem_cons, not_or] at h14'
  obtain ⟨⟨n1, n2, n3⟩, ⟨n4, n5⟩, n6, n7⟩ := h14'
  refine ⟨⟨dx, la, ca, ra, pa, t0, e0, as, rs ++ [a], obs, us0, h1, h2, h3, h4, ?_, paired_snoc hx h6, ?_, h8, ?_, h10, hl, h11, fun y hy => ?_, h13, h14⟩, h.named, h.len, h.s0, fun y o hy => ?_⟩
  · rw [upd_same, List.map_append]; rfl
  · rw [upd_ne (Ne.symm n1)]; exact h7
  · rw [upd_ne (Ne.symm n2)]; exact h9
  · obtain ⟨fb, us, k1, k2, k3, k4, k5⟩ := h12 y hy
    refine ⟨fb, us, k1, k2, ?_, k4, k5⟩
    rw [upd_ne (fun e => n3 (by rw [← e]; exact List.mem_map_of_mem hy))]
    exact k3
  · rw [upd_ne (ne_of_none hy (h13 ra (List.mem_cons_self ..)))]
    exact h.s1 _ _ hy
/-- the rows as a list -/
theorem BodyS.rowsAt {F0 F H : Hp} {p W : Addr} {ss : List Size} {c : Form} {rows : List (List Nat × Items)} {o : Open} {m : Nat} (h : BodyS K F0 F H p W ss c rows o m) :
    ∃ (dx la ca ra pa : Addr) (rs : List Addr), H p = some (.ins (He.ga K "Pattern") dx (patF la ca ra pa)) ∧ H ra = some (.lst (rs.map V.ref)) ∧ Paired (RowAt F) rs rows ∧ FormAt F ca c := by
  obtain ⟨dx, la, ca, ra, pa, t0, e0, as, rs, obs, us0, h1, h2, h3, h4, h5, h6, _⟩ := h.ex
  exact ⟨dx, la, ca, ra, pa, rs, h.s1 _ _ h1, h5, h6, h4⟩
/-- a block begins -/
theorem BodyS.open_ {F0 F H : Hp} {p W : Addr} {ss : List Size} {c : Form} {rows : List (List Nat × Items)} {o : Open} {m : Nat} (h : BodyS K F0 F H p W ss c rows o m) {xs : List V} {bp t fb : Addr} {n : Nat} {f : Form}
    (hW : H W = some (.lst xs)) (hbp : H bp = none) (ht : upd H bp (.lst []) t = none) (hf : FormAt F fb f) :
    BodyS K F0 (upd F t (.tup [.int (n : Int), .ref bp, .ref fb])) (upd (upd (upd H bp (.lst [])) t (.tup [.int (n : Int), .ref bp, .ref fb])) W (.lst (xs ++ [.ref t]))) p W ss c rows ⟨⟨n, .nil, f⟩ :: o.blks, o.base⟩ m := by
  obtain ⟨dx, la, ca, ra, pa, t0, e0, as, rs, obs, us0, h1, h2, h3, h4, h5, h6, h7, h8, h9, h10, hl, h11, h12, h13, h14⟩ := h.ex
  rw [h7] at hW
  cases hW
  have h14' := h14
  simp only [List.nodup_cons, List.mem_cons, not_or] at h14'
  obtain ⟨⟨n1, n2, n3⟩, ⟨n4, n5⟩, n6, n7⟩ := h14'
  have ntb : t ≠ bp := fun e => by rw [e, upd_same] at ht; cases ht
  have htH : H t = none := by rw [upd_ne ntb] at ht; exact ht
  have hFt : F t = none := h.s1.free htH
  have hFb : F bp = none := h.s1.free hbp
  have g : Same F (upd F t (.tup [.int (n : Int), .ref bp, .ref fb])) := same_new hFt
  have k0 : ∀ y o, H y = some o → y ≠ W → upd (upd (upd H bp (.lst [])) t (.tup [.int (n : Int), .ref bp, .ref fb])) W (.lst ((V.ref t0 :: (obs.reverse.map fun x => V.ref x.t)) ++ [.ref t])) y = some o := fun y o hy nw => by
    rw [upd_ne nw, upd_ne (ne_of_none hy htH), upd_ne (ne_of_none hy hbp)]; exact hy
  have nWt : t ≠ W := fun e => by rw [e, h7] at htH; cases htH
  have nWb : bp ≠ W := fun e => by rw [e, h7] at hbp; cases hbp
  refine ⟨⟨dx, la, ca, ra, pa, t0, e0, as, rs, ⟨t, bp, ⟨n, .nil, f⟩⟩ :: obs, us0, g _ _ h1, g _ _ h2, paired_mono (fun _ _ r => g _ _ r) h3, h4.mono g, k0 _ _ h5 n1, paired_mono (fun _ _ r => r.mono g) h6, ?_, g _ _ h8, k0 _ _ h9 (Ne.symm n4), h10.mono g, hl, ?_, fun y hy => ?_, fun y hy => ?_, ?_⟩, h.named, h.len, h.s0.trans g, fun y o hy => ?_⟩
  · rw [upd_same, List.reverse_cons, List.map_append]; rfl
  · show _ :: o.blks = _
    rw [h11]; rfl
  · rcases List.mem_cons.mp hy with e | hy
    · rw [e]
      refine ⟨fb, [], upd_same, hf.mono g, ?_, rfl, Nat.zero_le _⟩
      show upd _ W _ bp = _
      rw [upd_ne nWb, upd_ne (Ne.symm ntb), upd_same]
    · obtain ⟨fb2, us2, y1, y2, y3, y4, y5⟩ := h12 y hy
      exact ⟨fb2, us2, g _ _ y1, y2.mono g, k0 _ _ y3 (fun e => n5 (by rw [← e]; exact List.mem_map_of_mem hy)), y4.mono g, y5⟩
  · have hy' : y ∈ ra :: W :: pa :: bp :: obs.map Ob.bp := hy
    have : F y = none ∧ y ≠ t := by
      simp only [List.mem_cons] at hy'
      rcases hy' with e | e | e | e | e
      · exact ⟨h13 y (by simp [e]), fun z => by rw [← z, e, h5] at htH; cases htH⟩
      · exact ⟨h13 y (by simp [e]), fun z => nWt (by rw [← z, e])⟩
      · exact ⟨h13 y (by simp [e]), fun z => by rw [← z, e, h9] at htH; cases htH⟩
      · exact ⟨by rw [e]; exact hFb, fun z => ntb (by rw [← z, e])⟩
      · refine ⟨h13 y (by simp only [List.mem_cons]; exact .inr (.inr (.inr e))), fun z => ?_⟩
        obtain ⟨x, hx, ex⟩ := List.mem_map.mp e
        obtain ⟨_, _, _, _, y3, _⟩ := h12 x hx
        rw [← z, ← ex, y3] at htH; cases htH
    rw [upd_ne this.2]; exact this.1
  · have nb : bp ∉ ra :: W :: pa :: obs.map Ob.bp := fun hm => by
      simp only [List.mem_cons] at hm
      rcases hm with e | e | e | e
      · rw [e, h5] at hbp; cases hbp
      · exact nWb e
      · rw [e, h9] at hbp; cases hbp
      · obtain ⟨x, hx, ex⟩ := List.mem_map.mp e
        obtain ⟨_, _, _, _, y3, _⟩ := h12 x hx
        rw [← ex, y3] at hbp; cases hbp
    simp only [List.mem_cons, not_or] at nb
    simp only [List.map_cons, List.nodup_cons, List.mem_cons, not_or]
    exact ⟨⟨n1, n2, Ne.symm nb.1, n3⟩, ⟨n4, Ne.symm nb.2.1, n5⟩, ⟨Ne.symm nb.2.2.1, n6⟩, nb.2.2.2, n7⟩
  · by_cases e : y = t
    · rw [e, upd_same] at hy
      rw [e, upd_ne nWt, upd_same]; exact hy
    · rw [upd_ne e] at hy
      exact k0 _ _ (h.s1 _ _ hy) (ne_of_none hy (h13 W (by simp)))
/-- the innermost block ends -/
theorem BodyS.pop {F0 F H : Hp} {p W : Addr} {ss : List Size} {c : Form} {rows : List (List Nat × Items)} {b : Blk} {r : List Blk} {bs : Parts} {m : Nat} (h : BodyS K F0 F H p W ss c rows ⟨b :: r, bs⟩ m) :
    ∃ xs t bp fb us, H W = some (.lst (xs ++ [.ref t])) ∧ F t = some (.tup [.int (b.line : Int), .ref bp, .ref fb]) ∧ H bp = some (.lst us) ∧ PartsAt F b.parts us ∧ FormAt F fb b.form ∧ bp ≠ W ∧ F bp = none ∧ us.length ≤ m ∧
      BodyS K F0 (upd F bp (.lst us)) (upd H W (.lst xs)) p W ss c rows ⟨r, bs⟩ m := by
  obtain ⟨dx, la, ca, ra, pa, t0, e0, as, rs, obs, us0, h1, h2, h3, h4, h5, h6, h7, h8, h9, h10, hl, h11, h12, h13, h14⟩ := h.ex
  cases obs with
  | nil => cases h11
  | cons x obs =>
    have e1 : b = x.b := (List.cons.inj h11).1
    have e2 : r = obs.map Ob.b := (List.cons.inj h11).2
    subst e1 e2
    obtain ⟨fb, us, k1, k2, k3, k4, k5⟩ := h12 x (List.mem_cons_self ..)
    have h14' := h14
    simp only [List.map_cons, List.nodup_cons, List.mem_cons, not_or] at h14'
    obtain ⟨⟨n1, n2, n3, n3'⟩, ⟨n4, n5, n5'⟩, ⟨n6, n6'⟩, n7, n8⟩ := h14'
    have hFb : F x.bp = none := h13 x.bp (by simp)
    have g : Same F (upd F x.bp (.lst us)) := same_new hFb
    have k0 : ∀ y o, H y = some o → y ≠ W → upd H W (.lst (V.ref t0 :: (obs.reverse.map fun x => V.ref x.t))) y = some o := fun y o hy nw => by rw [upd_ne nw]; exact hy
    refine ⟨V.ref t0 :: (obs.reverse.map fun x => V.ref x.t), x.t, x.bp, fb, us, ?_, k1, k3, k4, k2, Ne.symm n5, hFb, k5, ⟨dx, la, ca, ra, pa, t0, e0, as, rs, obs, us0, g _ _ h1, g _ _ h2, paired_mono (fun _ _ r => g _ _ r) h3, h4.mono g, k0 _ _ h5 n1, paired_mono (fun _ _ r => r.mono g) h6, upd_same, g _ _ h8, k0 _ _ h9 (Ne.symm n4), h10.mono g, hl, rfl, fun y hy => ?_, fun y hy => ?_, ?_⟩, h.named, h.len, h.s0.trans g, fun y o hy => ?_⟩
    · rw [h7, List.reverse_cons, List.map_append]; rfl
    · obtain ⟨fb2, us2, y1, y2, y3, y4, y5⟩ := h12 y (List.mem_cons_of_mem _ hy)
      exact ⟨fb2, us2, g _ _ y1, y2.mono g, k0 _ _ y3 (fun e => n5' (by rw [← e]; exact List.mem_map_of_mem hy)), y4.mono g, y5⟩
    · have hn : F y = none := h13 y (by
        simp only [List.map_cons, List.mem_cons] at hy ⊢
        rcases hy with e | e | e | e
        · exact .inl e
        · exact .inr (.inl e)
        · exact .inr (.inr (.inl e))
        · exact .inr (.inr (.inr (.inr e))))
      have nb : y ≠ x.bp := fun e => by
        subst e
        simp only [List.mem_cons] at hy
        rcases hy with e | e | e | e
        · exact n3 e.symm
        · exact n5 e.symm
        · exact n6 e.symm
        · exact n7 e
      rw [upd_ne nb]; exact hn
    · simp only [List.nodup_cons, List.mem_cons, not_or]
      exact ⟨⟨n1, n2, n3'⟩, ⟨n4, n5'⟩, n6', n8⟩
    · by_cases e : y = x.bp
      · rw [e, upd_same] at hy
        rw [e, upd_ne (Ne.symm n5), k3]; exact hy
      · rw [upd_ne e] at hy
        exact k0 _ _ (h.s1 _ _ hy) (ne_of_none hy (h13 W (by simp)))
end
end Kn
namespace Kn
open PySem PySem.Spec PyProof.Rows L2
open Vbktaa (Form Size Item Items Part Parts idxOf NAMES rowIn)
theorem snm_lets {ss : List Size} (h : Named ss) : lets (ss.map sgn) = snm ss := h.lets
theorem getD_at {words : List (List Nat)} {i : Nat} (h : i < words.length) : words[i]? = some (words.getD i []) := by
  rw [List.getD_eq_getElem?_getD, List.getElem?_eq_getElem h]; rfl
theorem inV_pair {c : Nat} (h : ¬ (c = 107 ∨ c = 112)) : inV (.int (c : Int)) [.int 107, .int 112] = false := by
  have h1 : (107 : Int) ≠ (c : Int) := fun e => h (.inl (by omega))
  have h2 : (112 : Int) ≠ (c : Int) := fun e => h (.inr (by omega))
  show ((107 : Int) == (c : Int) || ((112 : Int) == (c : Int) || false)) = false
  rw [beq_eq_false_iff_ne.mpr h1, beq_eq_false_iff_ne.mpr h2]; rfl
def hiG (g : Option Nat) : Int := match g with
  | some h => (h : Int)
  | none => -1
section
variable {P : Program} {w : World} {K : PySem.W.Frag} {mg : Str → Option Value} {base : Heap}
/-! ### read_size -/
def spReadSize (K : PySem.W.Frag) : Sp := fun vs H Q E => ∃ (F0 F : Hp) (p a W : Addr) (words : List (List Nat)) (ss : List Size), vs = [.ref p, .ref a] ∧ HeadS K F0 F H p W ss ∧ TxtsAt F a words ∧ Short words ∧
  (∀ k, Vbktaa.readSize ss words = .inl k → Errs K F0 E 0 (k : Int)) ∧
  ∀ z, Vbktaa.readSize ss words = .inr z → ∀ (H' F' : Hp), HeadS K F0 F' H' p W (ss ++ [z]) → Q .non H'
theorem sc_read_size : FnScope ["pattern", "words", "least", "step", "greatest"] ["pattern", "words"] (defScope s_read_size) := ⟨rfl, rfl, rfl, by decide +kernel, rfl, by decide +kernel, by decide +kernel⟩
theorem ok_read_size (T : Txt K mg) (R : RaiW P w K mg base) (D : Def K mg "read_size" s_read_size) (c_is_letter : Cal P w K mg base CX0 1 "is_letter" ["byte"] (spByte Vbktaa.small))
    (c_number_between : Cal P w K mg base (L2.CX P w) 3 "number_between" ["word", "least", "most"] (spBetween K)) (m_signs : CalM P w K mg base CX0 1 (He.ma K (He.ga K "Pattern") "signs") ["self"] (spPSigns K)) :
    Cal P w K mg base (L2.CX P w) 4 "read_size" ["pattern", "words"] (spReadSize K) := by
  have sc := sc_read_size
  refine Cal.mk' D sc (fun _ _ _ _ _ _ us hl => match us, hl with | [_, _], _ => rfl) (fun vs H Q E h => ?_) (fun f cdv A outer s H vs Q E hr h => ?_)
  · obtain ⟨_, _, _, _, _, _, _, rfl, _⟩ := h; rfl
  obtain ⟨F0, F, p, a, W, words, ss, rfl, hS, hW, hsh, hbad, hgood⟩ := h
  rw [readSize_is hS.len (fun s hs => (hS.named s hs).imp fun _ q => q.1)] at hbad hgood
  obtain ⟨tr, hT, go⟩ : ∃ tr, PSs (cxOf (L2.CX P w) P w K mg base ["pattern", "words", "least", "step", "greatest"] "read_size" (defScope s_read_size) f cdv A outer s H E) ((defBody s_read_size).drop 5) tr ∧
      ∀ (H1 : Hp) (c : Nat) (l st : Nat) (g : Option Nat), Same H H1 → words.getD 1 [] = [c] → Vbktaa.small c = true → 1 < words.length → sizeR ss words = sizeD ss c (l : Int) (st : Int) g →
        tr { nx := fun x H' => Q V.non H', rt := Q } [some (.ref p), some (.ref a), some (.int (l : Int)), some (.int (st : Int)), some (.int (hiG g))] H1 := by
    refine ⟨_, (pss_cons (ps_if (pt_cmpR op_in_seq (pe_ix ix_list (pe_ix ix_list (pv 1) pe_int (fun _ _ => rfl)) pe_int (fun _ _ => rfl)) (pe_m0 (pv 0) T.cPattern T.mt_signs m_signs hr pass0) (by rfl)) (pss_one (ps_raise rfl (takes_of rfl rfl rfl rfl) (pmk_Wrong R hr (mono_cons mono_c (mono_cons mono_c mono_nil)) (pa_cons pe_int (pa_cons pe_int pa_nil))))) pss_nil)
      (pss_cons (ps_if (pt_cmpR op_eq (pe_callB call_len_seq (by rfl) T.f_len (by decide +kernel) (pa_cons (pe_fld (pv 0) rfl) pa_nil)) (pe_gi T.i_MOST_LETTERS) (nomark _)) (pss_one (ps_raise rfl (takes_of rfl rfl rfl rfl) (pmk_Wrong R hr (mono_cons mono_c (mono_cons mono_c mono_nil)) (pa_cons pe_int (pa_cons pe_int pa_nil))))) pss_nil)
      (pss_one (ps_expr (pe_bm PySem.F.plainAttrs_list PySem.F.slot_list_append PySem.F.type_list_append mt_append (pe_fld (pv 0) rfl) (pa_cons (pe_tup (pa_cons (pe_ix ix_list (pe_ix ix_list (pv 1) pe_int (fun _ _ => rfl)) pe_int (fun _ _ => rfl)) (pa_cons (pv 2) (pa_cons (pv 3) (pa_cons (pv 4) pa_nil))))) pa_nil)))))), fun H1 c l st g s1 hw1 hsm h1w hE => ?_⟩
    have S1 := hS.grow s1
    have hW1 : TxtsAt H1 a words := (hW.mono hS.s1).mono s1
    have ew : words[1]? = some [c] := by rw [getD_at h1w, hw1]
    obtain ⟨ys, b, hy1, hy2, hy3, hy4⟩ := txts_get (K := K) hW1 ew
    have i0 : atI (VT [c]) 0 = some (.int (c : Int)) := atI_nat (j := 0) rfl
    obtain ⟨dx, fs, la, as, k1, k2, k3, k4, k5⟩ := S1.pat.ex
    have hlen : (as.map V.ref).length = ss.length := by rw [List.length_map]; exact paired_len k5
    refine ⟨_, rfl, a, _, _, _, rfl, rfl, SqL.of hy1, atI_nat (j := 1) hy3, b, _, _, _, rfl, rfl, SqL.of hy4, i0, ?_⟩
    refine ⟨_, rfl, p, dx, fs, rfl, k1, k3, p, ss, rfl, S1.pat, fun H2 q s2 hq0 hq => ⟨q, _, rfl, .inl (SqL.of hq), rfl, flat_VT _, _, rfl, ?_⟩⟩
    rw [inV_VT]
    unfold sizeD at hE
    have hE' : sizeR ss words = if (ss.map sgn).contains c = true then .inl 2 else if ss.length = 2 then .inl 4 else .inr ⟨[c], (l : Int).toNat, (st : Int).toNat, g⟩ := hE
    have s12 : Same F0 H2 := ((hS.s0.trans hS.s1).trans s1).trans s2
    by_cases c1 : (ss.map sgn).contains c = true
    · refine if_true_of c1 ⟨_, _, rfl, ?_⟩
      rw [if_pos c1] at hE'
      exact (hbad 2 hE').at_ s12
    · refine if_false_of (by simpa using c1) ?_
      rw [if_neg c1] at hE'
      have S2 := hS.grow (s1.trans s2)
      refine ⟨_, rfl, p, _, dx, fs, _, rfl, s2 _ _ k1, T.cPattern, T.nPattern_letters, k2, la, _, rfl, .inl (SqL.of (s2 _ _ k4)), ?_⟩
      rw [hlen]
      refine ⟨rfl, _, rfl, ?_⟩
      by_cases c2 : ss.length = 2
      · refine if_true_of (decide_eq_true (by rw [c2]; rfl)) ⟨_, _, rfl, ?_⟩
        rw [if_pos c2] at hE'
        exact (hbad 4 hE').at_ s12
      · refine if_false_of (decide_eq_false (fun e => c2 (by have := V.int.inj e; omega))) ?_
        rw [if_neg c2] at hE'
        refine ⟨_, rfl, p, _, dx, fs, _, rfl, s2 _ _ k1, T.cPattern, T.nPattern_letters, k2, .inl ⟨rfl, _, SqL.of (s2 _ _ k4)⟩, ?_⟩
        refine ⟨_, rfl, a, _, _, _, rfl, rfl, SqL.of (s2 _ _ hy1), atI_nat (j := 1) hy3, b, _, _, _, rfl, rfl, SqL.of (s2 _ _ hy4), i0, _, rfl, _, rfl, _, rfl, small' (by show 4 ≤ 16000000; decide), fun t ht => ?_⟩
        have s3 : Same H2 (upd H2 t (.tup [.int (c : Int), .int (l : Int), .int (st : Int), .int (hiG g)])) := same_new ht
        have S3 := S2.grow s3
        refine ⟨la, _, _, rfl, rfl, put_at ht (s2 _ _ k4), small (by rw [hlen]; have := hS.len; omega), ?_⟩
        refine hgood _ hE' _ _ (S3.add (s3 _ _ (s2 _ _ k1)) k2 (put_at ht (s2 _ _ k4)) (z := ⟨[c], (l : Int).toNat, (st : Int).toNat, g⟩) ?_ ⟨c, rfl, hsm⟩ (by have := hS.len; omega))
        unfold LetAt
        rw [grow_new ht, upd_same, Int.toNat_natCast, Int.toNat_natCast]; rfl
  refine ⟨_, (pss_cons (ps_if (PW.pt (pw_or (pt_not (pt_chain op_le op_le pe_int (pe_callB call_len_seq (by rfl) T.f_len (by decide +kernel) (pa_cons (pv 1) pa_nil)) pe_int)) (pw_or (pt_cmpR op_ne (pe_callB call_len_seq (by rfl) T.f_len (by decide +kernel) (pa_cons (pe_ix ix_list (pv 1) pe_int (fun _ _ => rfl)) pa_nil)) pe_int (nomark _)) (pw_or (pt_not (pt_val (pe_f c_is_letter hr pass0 (pa_cons (pe_ix ix_list (pe_ix ix_list (pv 1) pe_int (fun _ _ => rfl)) pe_int (fun _ _ => rfl)) pa_nil)))) (pw_or1 (pt_cmpR op_in_seq (pe_ix ix_list (pe_ix ix_list (pv 1) pe_int (fun _ _ => rfl)) pe_int (fun _ _ => rfl)) (pe_gr T.g_BARRED) (by rfl))))))) (pss_one (ps_raise rfl (takes_of rfl rfl rfl rfl) (pmk_Wrong R hr (mono_cons mono_c (mono_cons mono_c mono_nil)) (pa_cons pe_int (pa_cons pe_int pa_nil))))) pss_nil)
  (pss_cons (ps_set (i := 2) sc.nd rfl (Or.inl rfl) (pe_f c_number_between hr passR (pa_cons (pe_ix ix_list (pv 1) pe_int (fun _ _ => rfl)) (pa_cons pe_int (pa_cons (pe_gi T.i_MOST_LEAST) pa_nil)))))
  (pss_cons (ps_set (i := 3) sc.nd rfl (Or.inl rfl) (pe_f c_number_between hr passR (pa_cons (pe_ix ix_list (pv 1) pe_int (fun _ _ => rfl)) (pa_cons pe_int (pa_cons (pe_gi T.i_MOST_STEP) pa_nil)))))
  (pss_cons (ps_set (i := 4) sc.nd rfl (Or.inl rfl) (pe_un un_neg pe_int))
  (pss_cons (ps_if (pt_cmpR op_eq (pe_callB call_len_seq (by rfl) T.f_len (by decide +kernel) (pa_cons (pv 1) pa_nil)) pe_int (nomark _)) (pss_one (ps_set (i := 4) sc.nd rfl (Or.inl rfl) (pe_f c_number_between hr passR (pa_cons (pe_ix ix_list (pv 1) pe_int (fun _ _ => rfl)) (pa_cons (pv 2) (pa_cons (pe_gi T.i_MOST_LEAST) pa_nil)))))) pss_nil)
  hT))))), ?_⟩
  have hW1 : TxtsAt H a words := hW.mono hS.s1
  obtain ⟨xs, hx1, hx2⟩ := txts_len hW1
  have s0 : Same F0 H := hS.s0.trans hS.s1
  have fail : ∀ {H1 : Hp}, Same H H1 → sizeR ss words = .inl 1 → ∀ d, H1 d = none → E (.ref (He.ga K "Wrong")) (some d) (upd H1 d (.xd (wrongF (.int 0) (.int 1)))) := fun s1 e => (hbad 1 e).at_ (s0.trans s1)
  refine ⟨_, rfl, a, xs, rfl, .inl (SqL.of hx1), _, _, rfl, rfl, _, rfl, ?_⟩
  rw [hx2]
  by_cases c1 : (4 : Int) ≤ (words.length : Int)
  · refine if_true_of (decide_eq_true c1) ⟨_, _, rfl, rfl, _, rfl, ?_⟩
    by_cases c2 : (words.length : Int) ≤ 5
    · refine if_false_of (by rw [decide_eq_true c2]; rfl) ?_
      have c12 : ¬¬ (4 ≤ words.length ∧ words.length ≤ 5) := fun z => z ⟨by omega, by omega⟩
      obtain ⟨ys, b, hy1, hy2, hy3, hy4⟩ := txts_get (K := K) hW1 (getD_at (show 1 < words.length by omega))
      refine ⟨_, rfl, a, _, _, _, rfl, rfl, SqL.of hy1, atI_nat (j := 1) hy3, b, _, rfl, .inl (SqL.of hy4), rfl, _, rfl, ?_⟩
      rw [VT_len]
      by_cases c3 : (words.getD 1 []).length = 1
      · refine if_false_of (by rw [c3]; rfl) ?_
        obtain ⟨c, hc⟩ : ∃ c, words.getD 1 [] = [c] := by
          match words.getD 1 [], c3 with
          | [c], _ => exact ⟨c, rfl⟩
        rw [hc] at hy4
        have i0 : atI (VT [c]) 0 = some (.int (c : Int)) := atI_nat (j := 0) rfl
        have hsz : sizeR ss words = if Vbktaa.small c = false then .inl 1 else if c = 107 ∨ c = 112 then .inl 1 else
            if ¬ (0 ≤ numI (words.getD 2 []) ∧ numI (words.getD 2 []) ≤ 1000) then .inl 1 else
            if ¬ (1 ≤ numI (words.getD 3 []) ∧ numI (words.getD 3 []) ≤ 100) then .inl 1 else
            if words.length = 5 then
              if ¬ (numI (words.getD 2 []) ≤ numI (words.getD 4 []) ∧ numI (words.getD 4 []) ≤ 1000) then .inl 1 else sizeD ss c (numI (words.getD 2 [])) (numI (words.getD 3 [])) (some (numI (words.getD 4 [])).toNat)
            else sizeD ss c (numI (words.getD 2 [])) (numI (words.getD 3 [])) none := by
          unfold sizeR
          rw [if_neg c12, hc, if_neg (by simp)]; rfl
        refine ⟨_, rfl, a, _, _, _, rfl, rfl, SqL.of hy1, atI_nat (j := 1) hy3, b, _, _, _, rfl, rfl, SqL.of hy4, i0, c, rfl, _, rfl, ?_⟩
        cases c4 : Vbktaa.small c with
        | false =>
          refine if_true_of rfl (if_true_of rfl ⟨_, _, rfl, fail (Same.refl H) ?_⟩)
          rw [hsz, if_pos c4]
        | true =>
          rw [if_neg (by rw [c4]; exact Bool.noConfusion)] at hsz
          refine if_false_of rfl ?_
          refine ⟨_, rfl, a, _, _, _, rfl, rfl, SqL.of hy1, atI_nat (j := 1) hy3, b, _, _, _, rfl, rfl, SqL.of hy4, i0, _, _, rfl, .inr (T.t_BARRED _), rfl, rfl, _, rfl, ?_⟩
          by_cases c5 : c = 107 ∨ c = 112
          · rw [if_pos c5] at hsz
            refine if_true_of ?_ ⟨_, _, rfl, fail (Same.refl H) hsz⟩
            rcases c5 with z | z
            · rw [z]; rfl
            · rw [z]; rfl
          · rw [if_neg c5] at hsz
            refine if_false_of ?_ ?_
            · exact inV_pair c5
            obtain ⟨ys2, b2, u1, u2, u3, u4⟩ := txts_get (K := K) hW1 (getD_at (show 2 < words.length by omega))
            obtain ⟨ys3, b3, v1, v2, v3, v4⟩ := txts_get (K := K) hW1 (getD_at (show 3 < words.length by omega))
            have sh : ∀ i, i < words.length → (words.getD i []).length ≤ 3000 := fun i hi => hsh _ (List.mem_of_getElem? (getD_at hi))
            refine ⟨_, rfl, a, _, _, _, rfl, rfl, SqL.of u1, atI_nat (j := 2) u3, b2, _, 0, 1000, rfl, SqL.of u4, sh 2 (by omega), fun z => ?_, fun z2 H1 s1 => ?_⟩
            · rw [if_pos z] at hsz
              exact (hbad 1 hsz).mono s0
            rw [if_neg (fun q => q z2)] at hsz
            refine ⟨_, rfl, a, _, _, _, rfl, rfl, SqL.of (s1 _ _ v1), atI_nat (j := 3) v3, b3, _, 1, 100, rfl, SqL.of (s1 _ _ v4), sh 3 (by omega), fun z => ?_, fun z3 H2 s2 => ?_⟩
            · rw [if_pos z] at hsz
              exact (hbad 1 hsz).mono (s0.trans s1)
            rw [if_neg (fun q => q z3)] at hsz
            have s12 := s1.trans s2
            obtain ⟨n2, hn2⟩ : ∃ n : Nat, numI (words.getD 2 []) = (n : Int) := ⟨(numI (words.getD 2 [])).toNat, by omega⟩
            obtain ⟨n3, hn3⟩ : ∃ n : Nat, numI (words.getD 3 []) = (n : Int) := ⟨(numI (words.getD 3 [])).toNat, by omega⟩
            rw [hn2, hn3] at hsz
            rw [hn2, hn3]
            refine ⟨_, rfl, _, rfl, a, _, rfl, .inl (SqL.of (s12 _ _ hx1)), ?_⟩
            rw [hx2]
            refine ⟨rfl, _, rfl, ?_⟩
            by_cases c6 : words.length = 5
            · refine if_true_of (decide_eq_true (by rw [c6]; rfl)) ?_
              rw [if_pos c6] at hsz
              obtain ⟨ys4, b4, w1, w2, w3, w4⟩ := txts_get (K := K) hW1 (getD_at (show 4 < words.length by omega))
              refine ⟨_, rfl, a, _, _, _, rfl, rfl, SqL.of (s12 _ _ w1), atI_nat (j := 4) w3, _, rfl, b4, _, _, 1000, rfl, SqL.of (s12 _ _ w4), sh 4 (by omega), fun z => ?_, fun z4 H3 s3 => ?_⟩
              · rw [if_pos z] at hsz
                exact (hbad 1 hsz).mono (s0.trans s12)
              rw [if_neg (fun q => q z4)] at hsz
              obtain ⟨n4, hn4⟩ : ∃ n : Nat, numI (words.getD 4 []) = (n : Int) := ⟨(numI (words.getD 4 [])).toNat, by omega⟩
              rw [hn4]
              rw [hn4, Int.toNat_natCast] at hsz
              exact go H3 c n2 n3 (some n4) (s12.trans s3) hc c4 (by omega) hsz
            · refine if_false_of (decide_eq_false (fun e => c6 (by have := V.int.inj e; omega))) ?_
              rw [if_neg c6] at hsz
              exact go H2 c n2 n3 none s12 hc c4 (by omega) hsz
      · refine if_true_of (by rw [decide_eq_false (fun e => c3 (by have := V.int.inj e; omega))]; rfl) (if_true_of rfl ⟨_, _, rfl, fail (Same.refl H) ?_⟩)
        unfold sizeR
        rw [if_neg c12, if_pos c3]
    · refine if_true_of (by rw [decide_eq_false c2]; rfl) (if_true_of rfl ⟨_, _, rfl, fail (Same.refl H) ?_⟩)
      unfold sizeR
      rw [if_pos (by omega)]
  · refine if_false_of (decide_eq_false c1) ⟨_, rfl, if_true_of rfl ⟨_, _, rfl, fail (Same.refl H) ?_⟩⟩
    unfold sizeR
    rw [if_pos (by omega)]
end
end Kn
namespace Kn
open PySem PySem.Spec PyProof.Rows L2
open Vbktaa (Form Size Item Items Part Parts idxOf NAMES rowIn word)
theorem cps_row : (Str.ofString "row").cps.toList = word "row" := by decide +kernel
theorem cps_again : (Str.ofString "again").cps.toList = word "again" := by decide +kernel
theorem cps_end : (Str.ofString "end").cps.toList = word "end" := by decide +kernel
theorem cps_off : (Str.ofString "off").cps.toList = word "off" := by decide +kernel
theorem cps_size : (Str.ofString "size").cps.toList = word "size" := by decide +kernel
theorem cps_cast : (Str.ofString "cast").cps.toList = word "cast" := by decide +kernel
section
variable {P : Program} {w : World} {K : PySem.W.Frag} {mg : Str → Option Value} {base : Heap}
/-! ### read_cast -/
/-- the words of a cast's line -/
def castR (ss : List Size) (ws : List (List Nat)) : Option Form := match ws with
  | [w, t] => if w = word "cast" then Vbktaa.formOf (snm ss) t else none
  | _ => none
theorem castR_len {ss : List Size} {ws : List (List Nat)} (h : ws.length ≠ 2) : castR ss ws = none := by
  match ws with
  | [] => rfl
  | [_] => rfl
  | [_, _] => exact absurd rfl h
  | _ :: _ :: _ :: _ => rfl
def spReadCast (K : PySem.W.Frag) : Sp := fun vs H Q E => ∃ (F0 F : Hp) (p a W : Addr) (words : List (List Nat)) (ss : List Size), vs = [.ref p, .ref a] ∧ HeadS K F0 F H p W ss ∧ TxtsAt F a words ∧ Short words ∧
  (castR ss words = none → Errs K F0 E 0 1) ∧
  ∀ c, castR ss words = some c → ∀ (H' F' : Hp), BodyS K F0 F' H' p W ss c [] ⟨[], .nil⟩ 0 → Q .non H'
theorem sc_read_cast : FnScope ["pattern", "words"] ["pattern", "words"] (defScope s_read_cast) := ⟨rfl, rfl, rfl, by decide +kernel, rfl, by decide +kernel, by decide +kernel⟩
theorem ok_read_cast (T : Txt K mg) (R : RaiW P w K mg base) (D : Def K mg "read_cast" s_read_cast) (c_signs_of : Cal P w K mg base CX0 1 "signs_of" ["word"] spSigns) (c_form_in : Cal P w K mg base (L2.CX P w) 5 "form_in" ["pattern", "word"] (spFormIn K)) :
    Cal P w K mg base (L2.CX P w) 6 "read_cast" ["pattern", "words"] (spReadCast K) := by
  have sc := sc_read_cast
  refine Cal.mk' D sc (fun _ _ _ _ _ _ us hl => match us, hl with | [_, _], _ => rfl) (fun vs H Q E h => ?_) (fun f cdv A outer s H vs Q E hr h => ?_)
  · obtain ⟨_, _, _, _, _, _, _, rfl, _⟩ := h; rfl
  obtain ⟨F0, F, p, a, W, words, ss, rfl, hS, hW, hsh, hbad, hgood⟩ := h
  refine ⟨_, (pss_cons (ps_if (PW.pt (pw_or (pt_cmpR op_ne (pe_callB call_len_seq (by rfl) T.f_len (by decide +kernel) (pa_cons (pv 1) pa_nil)) pe_int (nomark _)) (pw_or1 (pt_cmpR (op_neT hr.units) (pe_ix ix_list (pv 1) pe_int (fun _ _ => rfl)) (pe_f c_signs_of hr pass0 (pa_cons pe_str pa_nil)) (nomark _))))) (pss_one (ps_raise rfl (takes_of rfl rfl rfl rfl) (pmk_Wrong R hr (mono_cons mono_c (mono_cons mono_c mono_nil)) (pa_cons pe_int (pa_cons pe_int pa_nil))))) pss_nil)
    (pss_one (ps_fld (pv 0) (pe_f c_form_in hr passR (pa_cons (pv 0) (pa_cons (pe_ix ix_list (pv 1) pe_int (fun _ _ => rfl)) pa_nil))) rfl))), ?_⟩
  have hW1 : TxtsAt H a words := hW.mono hS.s1
  obtain ⟨xs, hx1, hx2⟩ := txts_len hW1
  have s0 : Same F0 H := hS.s0.trans hS.s1
  refine ⟨_, rfl, a, xs, rfl, .inl (SqL.of hx1), rfl, _, rfl, ?_⟩
  rw [hx2]
  by_cases c1 : words.length = 2
  · refine if_false_of (by rw [c1]; rfl) ?_
    obtain ⟨w0, t, e⟩ : ∃ w0 t, words = [w0, t] := by
      match words, c1 with
      | [w0, t], _ => exact ⟨w0, t, rfl⟩
    subst e
    obtain ⟨ys, b, hy1, hy2, hy3, hy4⟩ := txts_get (K := K) hW1 (i := 0) (t := w0) rfl
    obtain ⟨ys1, b1, hz1, hz2, hz3, hz4⟩ := txts_get (K := K) hW1 (i := 1) (t := t) rfl
    refine ⟨_, rfl, a, _, _, _, rfl, rfl, SqL.of hy1, atI_nat (j := 0) hy3, _, rfl, len_cps cps_cast (by decide), fun H1 q s1 hq hq' => ?_⟩
    rw [cps_cast] at hq'
    refine ⟨b, q, _, _, rfl, rfl, SqL.of (s1 _ _ hy4), SqL.of hq', _, rfl, ?_⟩
    by_cases c2 : w0 = word "cast"
    · refine if_false_of (by rw [decide_eq_true c2]; rfl) ?_
      have eC : castR ss [w0, t] = formI (ss.map sgn) t := by
        unfold castR formI
        dsimp only
        rw [if_pos c2, snm_lets hS.named]
      rw [eC] at hbad hgood
      have S1 := hS.grow s1
      refine ⟨_, rfl, _, rfl, a, _, _, _, rfl, rfl, SqL.of (s1 _ _ hz1), atI_nat (j := 1) hz3, p, b1, t, ss, rfl, S1.pat, SqL.of (s1 _ _ hz4), hsh t (by simp), fun e => (hbad e).mono (s0.trans s1), fun fm e H2 c s2 hc0 hc => ?_⟩
      have S2 := hS.grow (s1.trans s2)
      obtain ⟨dx, la, ca, ra, pa, t0, e0, as, h1, _⟩ := S2.ex
      obtain ⟨F', B⟩ := S2.cast (b := c) (c := fm) h1 (by
        unfold FormAt
        rw [grow_new (s1.free hc0)]; exact hc)
      exact ⟨_, rfl, p, _, dx, _, rfl, h1, T.cPattern, T.nPattern_cast, by show 4 < 1000; decide, hgood fm e _ F' B⟩
    · refine if_true_of (by rw [decide_eq_false c2]; rfl) ⟨_, _, rfl, (hbad ?_).at_ (s0.trans s1)⟩
      unfold castR
      dsimp only
      rw [if_neg c2]
  · refine if_true_of (by rw [decide_eq_false (fun e => c1 (by have := V.int.inj e; omega))]; rfl) (if_true_of rfl ⟨_, _, rfl, (hbad (castR_len c1)).at_ s0⟩)
/-! ### read_off, end_block, begin_block -/
def spReadOff (K : PySem.W.Frag) : Sp := fun vs H Q E => ∃ (F0 F : Hp) (p W : Addr) (ss : List Size) (c : Form) (rows : List (List Nat × Items)) (o : Open) (m : Nat), vs = [.ref W] ∧ BodyS K F0 F H p W ss c rows o m ∧ o.blks.length ≤ 3 ∧
  (o.blks ≠ [] ∨ o.base = .nil → Errs K F0 E 0 5) ∧ (o.blks = [] → o.base ≠ .nil → ∀ H', Same H H' → Q .non H')
theorem sc_read_off : FnScope ["within"] ["within"] (defScope s_read_off) := ⟨rfl, rfl, rfl, by decide +kernel, rfl, by decide +kernel, by decide +kernel⟩
theorem ok_read_off (T : Txt K mg) (R : RaiW P w K mg base) (D : Def K mg "read_off" s_read_off) : Cal P w K mg base (L2.CX P w) 3 "read_off" ["within"] (spReadOff K) := by
  have sc := sc_read_off
  refine Cal.mk' D sc (fun _ _ _ _ _ _ us hl => match us, hl with | [_], _ => rfl) (fun vs H Q E h => ?_) (fun f cdv A outer s H vs Q E hr h => ?_)
  · obtain ⟨_, _, _, _, _, _, _, _, _, rfl, _⟩ := h; rfl
  obtain ⟨F0, F, p, W, ss, c, rows, o, m, rfl, hB, ho3, hbad, hgood⟩ := h
  refine ⟨_, (pss_one (ps_if (PW.pt (pw_or (pt_cmpR op_gt (pe_callB call_len_seq (by rfl) T.f_len (by decide +kernel) (pa_cons (pv 0) pa_nil)) pe_int (nomark _)) (pw_or1 (pt_cmpR (op_eqNil (Nat.lt_of_le_of_lt (Nat.le_add_right _ 64) hr.units)) (pe_ix ix_tup (pe_ix ix_list (pv 0) pe_int (fun _ _ => rfl)) pe_int (fun _ _ => rfl)) (pe_lst pa_nil) (nomark _))))) (pss_one (ps_raise rfl (takes_of rfl rfl rfl rfl) (pmk_Wrong R hr (mono_cons mono_c (mono_cons mono_c mono_nil)) (pa_cons pe_int (pa_cons pe_int pa_nil))))) pss_nil)), ?_⟩
  have s0 : Same F0 H := hB.s0.trans hB.s1
  obtain ⟨dx, la, ca, ra, pa, t0, e0, as, rs, obs, us0, h1, h2, h3, h4, h5, h6, h7, h8, h9, h10, hl, h11, h12, h13, h14⟩ := hB.ex
  have hlen : (V.ref t0 :: (obs.reverse.map fun x => V.ref x.t)).length = o.blks.length + 1 := by rw [h11]; simp
  refine ⟨_, rfl, W, _, rfl, .inl (SqL.of h7), _, _, rfl, rfl, _, rfl, ?_⟩
  rw [hlen]
  by_cases c1 : o.blks = []
  · refine if_false_of (decide_eq_false (by rw [c1]; decide)) ?_
    refine ⟨_, rfl, W, _, _, _, rfl, rfl, SqL.of h7, atI_nat (j := 0) rfl, t0, _, _, _, rfl, rfl, SqT.of (hB.s1 _ _ h8), atI_nat (j := 1) rfl, small' (by decide), fun e1 he1 => ?_⟩
    have s1 : Same H (upd H e1 (.lst [])) := same_new he1
    refine ⟨pa, e1, us0, rfl, rfl, SqL.of (s1 _ _ h9), SqL.of upd_same, _, rfl, ?_⟩
    rw [parts_nil h10]
    cases eb : o.base with
    | nil => exact if_true_of rfl ⟨_, _, rfl, (hbad (.inr eb)).at_ (s0.trans s1)⟩
    | cons x y => exact if_false_of rfl (hgood c1 (by rw [eb]; exact fun z => nomatch z) _ s1)
  · have : 0 < o.blks.length := List.length_pos_iff.mpr c1
    exact if_true_of (decide_eq_true (by omega)) (if_true_of rfl ⟨_, _, rfl, (hbad (.inl c1)).at_ s0⟩)
def spBegin (K : PySem.W.Frag) : Sp := fun vs H Q E => ∃ (F0 F : Hp) (p a W : Addr) (n : Nat) (words : List (List Nat)) (ss : List Size) (c : Form) (rows : List (List Nat × Items)) (o : Open) (m : Nat), vs = [.ref p, .ref a, .ref W, .int (n : Int)] ∧ BodyS K F0 F H p W ss c rows o m ∧ o.blks.length ≤ 3 ∧ TxtsAt F a words ∧ Short words ∧
  (¬ (words.length = 2 ∧ ∃ f, formI (ss.map sgn) (words.getD 1 []) = some f) → Errs K F0 E 0 1) ∧
  ∀ f, words.length = 2 → formI (ss.map sgn) (words.getD 1 []) = some f → (o.blks.length = 3 → Errs K F0 E 0 4) ∧ (o.blks.length ≠ 3 → ∀ H' F', BodyS K F0 F' H' p W ss c rows ⟨⟨n, .nil, f⟩ :: o.blks, o.base⟩ m → Q .non H')
theorem sc_begin_block : FnScope ["pattern", "words", "within", "line", "form"] ["pattern", "words", "within", "line"] (defScope s_begin_block) := ⟨rfl, rfl, rfl, by decide +kernel, rfl, by decide +kernel, by decide +kernel⟩
theorem ok_begin_block (T : Txt K mg) (R : RaiW P w K mg base) (D : Def K mg "begin_block" s_begin_block) (c_form_in : Cal P w K mg base (L2.CX P w) 5 "form_in" ["pattern", "word"] (spFormIn K)) :
    Cal P w K mg base (L2.CX P w) 6 "begin_block" ["pattern", "words", "within", "line"] (spBegin K) := by
  have sc := sc_begin_block
  refine Cal.mk' D sc (fun _ _ _ _ _ _ us hl => match us, hl with | [_, _, _, _], _ => rfl) (fun vs H Q E h => ?_) (fun f cdv A outer s H vs Q E hr h => ?_)
  · obtain ⟨_, _, _, _, _, _, _, _, _, _, _, _, rfl, _⟩ := h; rfl
  obtain ⟨F0, F, p, a, W, n, words, ss, c, rows, o, m, rfl, hB, ho3, hW, hsh, hbad, hgood⟩ := h
  refine ⟨_, (pss_cons (ps_if (pt_cmpR op_ne (pe_callB call_len_seq (by rfl) T.f_len (by decide +kernel) (pa_cons (pv 1) pa_nil)) pe_int (nomark _)) (pss_one (ps_raise rfl (takes_of rfl rfl rfl rfl) (pmk_Wrong R hr (mono_cons mono_c (mono_cons mono_c mono_nil)) (pa_cons pe_int (pa_cons pe_int pa_nil))))) pss_nil)
  (pss_cons (ps_set (i := 4) sc.nd rfl (Or.inl rfl) (pe_f c_form_in hr passR (pa_cons (pv 0) (pa_cons (pe_ix ix_list (pv 1) pe_int (fun _ _ => rfl)) pa_nil))))
  (pss_cons (ps_if (pt_cmpR op_gt (pe_callB call_len_seq (by rfl) T.f_len (by decide +kernel) (pa_cons (pv 2) pa_nil)) (pe_gi T.i_MOST_DEEP) (nomark _)) (pss_one (ps_raise rfl (takes_of rfl rfl rfl rfl) (pmk_Wrong R hr (mono_cons mono_c (mono_cons mono_c mono_nil)) (pa_cons pe_int (pa_cons pe_int pa_nil))))) pss_nil)
  (pss_one (ps_expr (pe_bm PySem.F.plainAttrs_list PySem.F.slot_list_append PySem.F.type_list_append mt_append (pv 2) (pa_cons (pe_tup (pa_cons (pv 3) (pa_cons (pe_lst pa_nil) (pa_cons (pv 4) pa_nil)))) pa_nil))))))), ?_⟩
  have hW1 : TxtsAt H a words := hW.mono hB.s1
  obtain ⟨xs, hx1, hx2⟩ := txts_len hW1
  have s0 : Same F0 H := hB.s0.trans hB.s1
  refine ⟨_, rfl, a, xs, rfl, .inl (SqL.of hx1), rfl, _, rfl, ?_⟩
  rw [hx2]
  by_cases c1 : words.length = 2
  · refine if_false_of (by rw [c1]; rfl) ?_
    obtain ⟨ys1, b1, hz1, hz2, hz3, hz4⟩ := txts_get (K := K) hW1 (getD_at (show 1 < words.length by omega))
    refine ⟨_, rfl, _, rfl, a, _, _, _, rfl, rfl, SqL.of hz1, atI_nat (j := 1) hz3, p, b1, _, ss, rfl, hB.pat, SqL.of hz4, hsh _ (List.mem_of_getElem? (getD_at (show 1 < words.length by omega))), fun e => ?_, fun fm e H1 q s1 hq0 hq => ?_⟩
    · refine (hbad fun z => ?_).mono s0
      obtain ⟨_, f, z⟩ := z
      rw [e] at z; cases z
    obtain ⟨hbad2, hgood2⟩ := hgood fm c1 e
    have B1 := hB.grow s1
    obtain ⟨zs, t, l, bp, fb, us, i1, i2, i3, i4, i5, i6⟩ := B1.inner
    refine ⟨_, rfl, W, _, rfl, .inl (SqL.of i1), ?_⟩
    rw [i2]
    refine ⟨_, _, rfl, rfl, _, rfl, ?_⟩
    by_cases c2 : o.blks.length = 3
    · exact if_true_of (decide_eq_true (by omega)) ⟨_, _, rfl, (hbad2 c2).at_ (s0.trans s1)⟩
    · refine if_false_of (decide_eq_false (by omega)) ?_
      refine ⟨_, rfl, .inl ⟨rfl, _, SqL.of i1⟩, _, rfl, small' (by decide), fun e1 he1 => ⟨_, rfl, small' (by show 3 ≤ 16000000; decide), fun t1 ht1 => ⟨W, _, _, rfl, rfl, put_at ht1 (put_at he1 i1), small (by omega), ?_⟩⟩⟩
      refine hgood2 c2 _ _ (B1.open_ i1 he1 ht1 ?_)
      unfold FormAt
      rw [grow_new (hq0)]; exact hq
  · refine if_true_of (by rw [decide_eq_false (fun e => c1 (by have := V.int.inj e; omega))]; rfl) ⟨_, _, rfl, (hbad fun z => c1 z.1).at_ s0⟩
def spEnd (K : PySem.W.Frag) : Sp := fun vs H Q E => ∃ (F0 F : Hp) (p W : Addr) (ss : List Size) (c : Form) (rows : List (List Nat × Items)) (o : Open) (m : Nat), vs = [.ref W] ∧ BodyS K F0 F H p W ss c rows o m ∧ o.blks.length ≤ 3 ∧ m ≤ 3000 ∧
  (o.blks = [] → Errs K F0 E 0 5) ∧
  ∀ b r, o.blks = b :: r → (b.parts = .nil → Errs K F0 E (b.line : Int) 5) ∧ (b.parts ≠ .nil → ∀ H' F', BodyS K F0 F' H' p W ss c rows (Open.push ⟨r, o.base⟩ (.again b.form b.parts)) (m + 1) → Q .non H')
theorem sc_end_block : FnScope ["within", "line", "parts", "form"] ["within"] (defScope s_end_block) := ⟨rfl, rfl, rfl, by decide +kernel, rfl, by decide +kernel, by decide +kernel⟩
theorem ok_end_block (T : Txt K mg) (R : RaiW P w K mg base) (D : Def K mg "end_block" s_end_block) : Cal P w K mg base (L2.CX P w) 3 "end_block" ["within"] (spEnd K) := by
  have sc := sc_end_block
  refine Cal.mk' D sc (fun _ _ _ _ _ _ us hl => match us, hl with | [_], _ => rfl) (fun vs H Q E h => ?_) (fun f cdv A outer s H vs Q E hr h => ?_)
  · obtain ⟨_, _, _, _, _, _, _, _, _, rfl, _⟩ := h; rfl
  obtain ⟨F0, F, p, W, ss, c, rows, o, m, rfl, hB, ho3, hm, hbad, hgood⟩ := h
  refine ⟨_, (pss_cons (ps_if (pt_cmpR op_eq (pe_callB call_len_seq (by rfl) T.f_len (by decide +kernel) (pa_cons (pv 0) pa_nil)) pe_int (nomark _)) (pss_one (ps_raise rfl (takes_of rfl rfl rfl rfl) (pmk_Wrong R hr (mono_cons mono_c (mono_cons mono_c mono_nil)) (pa_cons pe_int (pa_cons pe_int pa_nil))))) pss_nil)
  (pss_cons (ps_asg (pe_bm0 PySem.F.plainAttrs_list PySem.F.slot_list_pop PySem.F.type_list_pop mt_pop (pv 0)) (pg_tup rfl (pgs_cons (pg_name (i := 1) sc.nd rfl (Or.inl rfl)) (pgs_cons (pg_name (i := 2) sc.nd rfl (Or.inl rfl)) (pgs_cons (pg_name (i := 3) sc.nd rfl (Or.inl rfl)) pgs_nil)))))
  (pss_cons (ps_if (pt_cmpR (op_eqNil (Nat.lt_of_le_of_lt (Nat.le_add_right _ 64) hr.units)) (pv 2) (pe_lst pa_nil) (nomark _)) (pss_one (ps_raise rfl (takes_of rfl rfl rfl rfl) (pmk_Wrong R hr (mono_cons mono_var (mono_cons mono_c mono_nil)) (pa_cons (pv 1) (pa_cons pe_int pa_nil))))) pss_nil)
  (pss_one (ps_expr (pe_bm PySem.F.plainAttrs_list PySem.F.slot_list_append PySem.F.type_list_append mt_append (pe_ix ix_tup (pe_ix ix_list (pv 0) (pe_un un_neg pe_int) (fun _ _ => rfl)) pe_int (fun _ _ => rfl)) (pa_cons (pe_tup (pa_cons (pe_gi T.i_BLOCK) (pa_cons (pv 2) (pa_cons (pv 3) pa_nil)))) pa_nil))))))), ?_⟩
  have s0 : Same F0 H := hB.s0.trans hB.s1
  obtain ⟨zs, t', l', bp', fb', us', i1, i2, i3, i4, i5, i6⟩ := hB.inner
  refine ⟨_, rfl, W, _, rfl, .inl (SqL.of i1), rfl, _, rfl, ?_⟩
  rw [i2]
  cases eo : o.blks with
  | nil => exact if_true_of (decide_eq_true rfl) ⟨_, _, rfl, (hbad eo).at_ s0⟩
  | cons b r =>
    obtain ⟨hbad2, hgood2⟩ := hgood b r eo
    refine if_false_of (decide_eq_false (fun e => by have := V.int.inj e; simp at this; omega)) ?_
    obtain ⟨blks, bs⟩ := o
    have eo' : blks = b :: r := eo
    subst eo'
    obtain ⟨xs, t, bp, fb, us, p1, p2, p3, p4, p5, p6, p7, p8, B1⟩ := hB.pop
    have hxl : (xs ++ [V.ref t])[(xs ++ [V.ref t]).length - 1]? = some (V.ref t) := by
      rw [List.length_append, List.length_singleton, Nat.add_sub_cancel, List.getElem?_append_right (Nat.le_refl _), Nat.sub_self]; rfl
    refine ⟨_, rfl, .inl ⟨rfl, _, SqL.of p1⟩, W, _, _, rfl, rfl, p1, hxl, ?_⟩
    rw [List.dropLast_concat]
    have hF1 : Same (upd F bp (.lst us)) (upd H W (.lst xs)) := B1.s1
    have ht1 : upd F bp (.lst us) t = some (.tup [.int (b.line : Int), .ref bp, .ref fb]) := put_at p7 p2
    have hbp1 : upd H W (.lst xs) bp = some (.lst us) := hF1 _ _ upd_same
    refine ⟨t, _, rfl, SqT.of (hF1 _ _ ht1), rfl, _, _, rfl, _, _, rfl, _, _, rfl, rfl, ?_⟩
    refine ⟨_, rfl, small' (by decide), fun e1 he1 => ⟨bp, e1, us, rfl, rfl, SqL.of (put_at he1 hbp1), SqL.of upd_same, _, rfl, ?_⟩⟩
    rw [parts_nil p4]
    have s1 : Same (upd H W (.lst xs)) (upd (upd H W (.lst xs)) e1 (.lst [])) := same_new he1
    have s01 : Same F0 (upd (upd H W (.lst xs)) e1 (.lst [])) := (B1.s0.trans hF1).trans s1
    cases eb : b.parts with
    | nil => exact if_true_of rfl ⟨_, rfl, _, _, rfl, (hbad2 eb).at_ s01⟩
    | cons x y =>
      refine if_false_of rfl ?_
      have B2 := B1.grow s1
      obtain ⟨zs2, t2, l2, bp2, fb2, us2, j1, j2, j3, j4, j5, j6⟩ := B2.inner
      refine ⟨_, rfl, _, rfl, W, _, _, _, rfl, rfl, SqL.of j1, j3, t2, _, _, _, rfl, rfl, SqT.of (B2.s1 _ _ j4), atI_nat (j := 1) rfl, .inl ⟨rfl, _, SqL.of j5⟩, _, rfl, _, rfl, small' (by show 3 ≤ 16000000; decide), fun t3 ht3 => ?_⟩
      have s2 := same_new (o := .tup [.int (-1), .ref bp, .ref fb]) ht3
      have B3 := B2.grow s2
      have g2 := grow_same (F := Grow (upd F bp (.lst us)) (upd H W (.lst xs)) (upd (upd H W (.lst xs)) e1 (.lst []))) (H' := upd (upd (upd H W (.lst xs)) e1 (.lst [])) t3 (.tup [.int (-1), .ref bp, .ref fb])) B2.s1
      have g1 := grow_same (H' := upd (upd H W (.lst xs)) e1 (.lst [])) hF1
      refine ⟨bp2, _, _, rfl, rfl, put_at ht3 j5, small (by omega), ?_⟩
      have gF : Same F (upd F bp (.lst us)) := same_new p7
      have hP : PartAt (Grow (Grow (upd F bp (.lst us)) (upd H W (.lst xs)) (upd (upd H W (.lst xs)) e1 (.lst []))) (upd (upd H W (.lst xs)) e1 (.lst [])) (upd (upd (upd H W (.lst xs)) e1 (.lst [])) t3 (.tup [.int (-1), .ref bp, .ref fb]))) (.again b.form b.parts) (.ref t3) :=
        ⟨t3, bp, fb, us, rfl, by rw [grow_new ht3, upd_same], g2 _ _ (g1 _ _ upd_same), ((p4.mono gF).mono g1).mono g2, ((p5.mono gF).mono g1).mono g2⟩
      exact hgood2 (by rw [eb]; exact fun z => nomatch z) _ _ (B3.push (s2 _ _ j1) j3 (g2 _ _ j4) (s2 _ _ j5) hP)
end
end Kn
namespace Kn
open PySem PySem.Spec PyProof.Rows L2
open Vbktaa (Form Size Item Items Part Parts idxOf NAMES rowIn word isName)
/-- a row's name and items -/
def rowR (ss : List Size) (ws : List (List Nat)) : Option (List Nat × Items) := match ws with
  | _ :: name :: r => if isName name = false ∨ 40 < ws.length then none else (rowIn (snm ss) r).map fun l => (name, l)
  | _ => none
theorem rowIn_empty (ls : List (List Nat)) : rowIn ls [] = none := by
  rw [rowIn_eq, itemsN_nil]; rfl
theorem rowR_short {ss : List Size} {ws : List (List Nat)} (h : ws.length < 3) : rowR ss ws = none := by
  match ws with
  | [] => rfl
  | [_] => rfl
  | [h0, n] =>
    unfold rowR
    dsimp only
    by_cases c : isName n = false ∨ 40 < [h0, n].length
    · rw [if_pos c]
    · rw [if_neg c, rowIn_empty]; rfl
  | _ :: _ :: _ :: _ =>
    exfalso
    simp at h
    omega
theorem rowR_long {ss : List Size} {ws : List (List Nat)} (h : 40 < ws.length) : rowR ss ws = none := by
  match ws with
  | [] => rfl
  | [_] => rfl
  | _ :: n :: r =>
    unfold rowR
    dsimp only
    rw [if_pos (.inr h)]
theorem rowR_name {ss : List Size} {ws : List (List Nat)} (h2 : 2 ≤ ws.length) (h : isName (ws.getD 1 []) = false) : rowR ss ws = none := by
  match ws, h2 with
  | _ :: n :: r, _ =>
    unfold rowR
    dsimp only
    rw [if_pos (.inl h)]
theorem rowR_is {ss : List Size} {ws : List (List Nat)} (h2 : 2 ≤ ws.length) (h40 : ws.length ≤ 40) (h : isName (ws.getD 1 []) = true) : rowR ss ws = (rowIn (snm ss) (ws.drop 2)).map fun l => (ws.getD 1 [], l) := by
  match ws, h2 with
  | _ :: n :: r, _ =>
    unfold rowR
    dsimp only
    rw [if_neg]
    · rfl
    · intro z
      rcases z with z | z
      · have h' : isName n = true := h
        rw [h'] at z; cases z
      · omega
theorem grow_mono {F H H1 H2 : Hp} (s : Same H1 H2) : Same (Grow F H H1) (Grow F H H2) := fun b o h => by
  unfold Grow at h ⊢
  cases e : H b with
  | none => rw [e] at h; exact s _ _ h
  | some u => rw [e] at h; exact h
section
variable {P : Program} {w : World} {K : PySem.W.Frag} {mg : Str → Option Value} {base : Heap}
def spReadRow (K : PySem.W.Frag) : Sp := fun vs H Q E => ∃ (F0 F : Hp) (p a W : Addr) (words : List (List Nat)) (ss : List Size) (c : Form) (rows : List (List Nat × Items)) (o : Open) (m : Nat), vs = [.ref p, .ref a, .ref W] ∧ BodyS K F0 F H p W ss c rows o m ∧ o.blks.length ≤ 3 ∧ m ≤ 3000 ∧ rows.length ≤ 20 ∧ TxtsAt F a words ∧ Short words ∧ [10] ∉ words ∧
  (rowR ss words = none → Errs K F0 E 0 1) ∧
  ∀ x, rowR ss words = some x → ((rows.map fun y => y.1).contains x.1 = true → Errs K F0 E 0 2) ∧ ((rows.map fun y => y.1).contains x.1 = false → rows.length = 20 → Errs K F0 E 0 4) ∧
    ((rows.map fun y => y.1).contains x.1 = false → rows.length ≠ 20 → ∀ H' F', BodyS K F0 F' H' p W ss c (rows ++ [x]) (o.push (.row rows.length x.1 x.2)) (m + 1) → Q .non H')
theorem sc_read_row : FnScope ["pattern", "words", "within", "items", "name", "own"] ["pattern", "words", "within"] (defScope s_read_row) := ⟨rfl, rfl, rfl, by decide +kernel, rfl, by decide +kernel, by decide +kernel⟩
theorem ok_read_row (T : Txt K mg) (R : RaiW P w K mg base) (D : Def K mg "read_row" s_read_row) (c_is_name : Cal P w K mg base CX0 2 "is_name" ["word"] (spName K)) (c_row_items : Cal P w K mg base (L2.CX P w) 14 "row_items" ["pattern", "words"] (spRowItems K)) :
    Cal P w K mg base (L2.CX P w) 15 "read_row" ["pattern", "words", "within"] (spReadRow K) := by
  have sc := sc_read_row
  refine Cal.mk' D sc (fun _ _ _ _ _ _ us hl => match us, hl with | [_, _, _], _ => rfl) (fun vs H Q E h => ?_) (fun f cdv A outer s H vs Q E hr h => ?_)
  · obtain ⟨_, _, _, _, _, _, _, _, _, _, _, rfl, _⟩ := h; rfl
  obtain ⟨F0, F, p, a, W, words, ss, c, rows, o, m, rfl, hB, ho3, hm, hr20, hW, hsh, hn10, hbad, hgood⟩ := h
  refine ⟨_, (pss_cons (ps_if (PW.pt (pw_or (pt_not (pt_chain op_le op_le pe_int (pe_callB call_len_seq (by rfl) T.f_len (by decide +kernel) (pa_cons (pv 1) pa_nil)) (pe_gi T.i_MOST_WORDS))) (pw_or1 (pt_not (pt_val (pe_f c_is_name hr pass0 (pa_cons (pe_ix ix_list (pv 1) pe_int (fun _ _ => rfl)) pa_nil))))))) (pss_one (ps_raise rfl (takes_of rfl rfl rfl rfl) (pmk_Wrong R hr (mono_cons mono_c (mono_cons mono_c mono_nil)) (pa_cons pe_int (pa_cons pe_int pa_nil))))) pss_nil)
  (pss_cons (ps_set (i := 3) sc.nd rfl (Or.inl rfl) (pe_f c_row_items hr passR (pa_cons (pv 0) (pa_cons (pv 1) pa_nil))))
  (pss_cons (ps_if (pt_cmpR (op_inTL (Room.u65 hr)) (pe_ix ix_list (pv 1) pe_int (fun _ _ => rfl)) (pe_lc (own := [("name", 4), ("own", 5)]) (g := gTup K 2 (gCons (gName 4) (gCons (gName 5) gNil))) rfl sc.nd (pi_list (pe_fld (pv 0) rfl)) (blkOk_by (N := ["pattern", "words", "within", "items", "name", "own"]) (sc := defScope s_read_row) (by decide +kernel)) (fun _ _ _ _ _ => (pg_tup rfl (pgs_cons (pg_name (i := 4) sc.nd rfl (Or.inl rfl)) (pgs_cons (pg_name (i := 5) sc.nd rfl (Or.inl rfl)) pgs_nil)))) (fun _ _ _ _ _ => pts_nil) (fun _ _ _ _ _ => (pv 4))) (by rfl)) (pss_one (ps_raise rfl (takes_of rfl rfl rfl rfl) (pmk_Wrong R hr (mono_cons mono_c (mono_cons mono_c mono_nil)) (pa_cons pe_int (pa_cons pe_int pa_nil))))) pss_nil)
  (pss_cons (ps_if (pt_cmpR op_eq (pe_callB call_len_seq (by rfl) T.f_len (by decide +kernel) (pa_cons (pe_fld (pv 0) rfl) pa_nil)) (pe_gi T.i_MOST_ROWS) (nomark _)) (pss_one (ps_raise rfl (takes_of rfl rfl rfl rfl) (pmk_Wrong R hr (mono_cons mono_c (mono_cons mono_c mono_nil)) (pa_cons pe_int (pa_cons pe_int pa_nil))))) pss_nil)
  (pss_cons (ps_expr (pe_bm PySem.F.plainAttrs_list PySem.F.slot_list_append PySem.F.type_list_append mt_append (pe_ix ix_tup (pe_ix ix_list (pv 2) (pe_un un_neg pe_int) (fun _ _ => rfl)) pe_int (fun _ _ => rfl)) (pa_cons (pe_tup (pa_cons (pe_callB call_len_seq (by rfl) T.f_len (by decide +kernel) (pa_cons (pe_fld (pv 0) rfl) pa_nil)) (pa_cons (pe_lst pa_nil) (pa_cons (pe_lst pa_nil) pa_nil)))) pa_nil)))
  (pss_one (ps_expr (pe_bm PySem.F.plainAttrs_list PySem.F.slot_list_append PySem.F.type_list_append mt_append (pe_fld (pv 0) rfl) (pa_cons (pe_tup (pa_cons (pe_ix ix_list (pv 1) pe_int (fun _ _ => rfl)) (pa_cons (pv 3) pa_nil))) pa_nil))))))))), ?_⟩
  have hW1 : TxtsAt H a words := hW.mono hB.s1
  obtain ⟨xs, hx1, hx2⟩ := txts_len hW1
  have s0 : Same F0 H := hB.s0.trans hB.s1
  refine ⟨_, rfl, a, xs, rfl, .inl (SqL.of hx1), _, _, rfl, rfl, _, rfl, ?_⟩
  rw [hx2]
  by_cases c1 : (3 : Int) ≤ (words.length : Int)
  · refine if_true_of (decide_eq_true c1) ⟨_, _, rfl, rfl, _, rfl, ?_⟩
    by_cases c2 : (words.length : Int) ≤ 40
    · refine if_false_of (by rw [decide_eq_true c2]; rfl) ?_
      have g1 := getD_at (show 1 < words.length by omega)
      obtain ⟨ys, b, fy1, hy2, hy3, fy4⟩ := txts_get (K := K) hW g1
      have hy1 := hB.s1 _ _ fy1
      have hy4 := hB.s1 _ _ fy4
      refine ⟨_, rfl, a, _, _, _, rfl, rfl, SqL.of hy1, atI_nat (j := 1) hy3, b, _, rfl, SqL.of hy4, hsh _ (List.mem_of_getElem? g1), fun H1 s1 => ⟨_, rfl, ?_⟩⟩
      have s01 := s0.trans s1
      cases c3 : isName (words.getD 1 []) with
      | false => exact if_true_of rfl ⟨_, _, rfl, (hbad (rowR_name (by omega) c3)).at_ s01⟩
      | true =>
        refine if_false_of rfl ?_
        rw [rowR_is (by omega) (by omega) c3, ← snm_lets hB.named] at hbad hgood
        refine ⟨_, rfl, _, rfl, p, a, words, ss, rfl, hB.pat.mono s1, hW1.mono s1, hsh, by omega, by omega, hn10, fun e => (hbad (by rw [e]; rfl)).mono s01, fun l e H2 q us s2 hq0 hq hus => ?_⟩
        rw [e] at hgood
        obtain ⟨h2, h4, hok⟩ := hgood _ rfl
        have s12 := s1.trans s2
        have B2 := hB.grow s12
        obtain ⟨dx, la, ca, ra, pa, rs, r1, r2, r3, r4⟩ := B2.rowsAt
        have hrl := paired_len r3
        have s02 := s01.trans s2
        refine ⟨_, rfl, a, _, _, _, rfl, rfl, SqL.of (s12 _ _ hy1), atI_nat (j := 1) hy3, ?_⟩
        refine ⟨_, rfl, p, _, dx, _, _, rfl, r1, T.cPattern, T.nPattern_rows, rfl, ra, rfl, ⟨_, SqL.of r2⟩, fun D hD => lc_it walk_list (fun i H' => Same H2 H' ∧ ∃ ns, H' D = some (.lst (ns.map V.ref)) ∧ Paired (fun n (t : List Nat) => H2 n = some (.lst (VT t))) ns ((rows.take i).map fun y => y.1)) ⟨same_new hD, [], upd_same, .nil⟩ (fun i H' _ q => SqL.of (q.1 _ _ r2)) ?_ ?_⟩
        · rintro i x H3 H4 hi ⟨s3, ns, hd, hns⟩ ⟨rfl, hx⟩
          obtain ⟨ax, hax, rfl⟩ := map_get hx
          obtain ⟨y, hy, n, q', us', t1, t2, t3, t4⟩ := paired_get r3 hax
          have bn : ∀ z o, Grow F H H2 z = some o → H2 z = some o := fun z o hz => B2.s1 _ _ hz
          refine ⟨ax, _, rfl, SqT.of (s3 _ _ (bn _ _ t1)), rfl, _, _, rfl, _, _, rfl, rfl, ?_⟩
          refine ⟨rfl, _, rfl, _, hd, small ?_, same_put s3 hD, ns ++ [n], ?_, ?_⟩
          · have := paired_len hns
            rw [List.length_map, this, List.length_map, List.length_take]; omega
          · rw [upd_same, List.map_append]; rfl
          · rw [take_more hy, List.map_append]
            exact paired_snoc (F := fun n (t : List Nat) => H2 n = some (.lst (VT t))) (a := n) (b := y.1) (bn _ _ t2) hns
        · rintro H3 ⟨s3, ns, hd, hns⟩
          rw [List.length_map, hrl, take_all] at hns
          have s13 := s12.trans s3
          refine ⟨b, _, D, ns, _, rfl, SqL.of (s13 _ _ hy4), rfl, SqL.of hd, paired_mono (fun _ _ z => SqL.of (s3 _ _ z)) hns, _, rfl, ?_⟩
          cases c4 : (rows.map fun y => y.1).contains (words.getD 1 []) with
          | true => exact if_true_of rfl ⟨_, _, rfl, (h2 c4).at_ (s02.trans s3)⟩
          | false =>
            refine if_false_of rfl ?_
            refine ⟨_, rfl, p, _, dx, _, _, rfl, s3 _ _ r1, T.cPattern, T.nPattern_rows, rfl, ra, _, rfl, .inl (SqL.of (s3 _ _ r2)), ?_⟩
            rw [List.length_map, hrl]
            refine ⟨rfl, _, rfl, ?_⟩
            by_cases c5 : rows.length = 20
            · exact if_true_of (decide_eq_true (by rw [c5]; rfl)) ⟨_, _, rfl, (h4 c4 c5).at_ (s02.trans s3)⟩
            · refine if_false_of (decide_eq_false (fun e => c5 (by have := V.int.inj e; omega))) ?_
              have B3 := hB.grow s13
              obtain ⟨zs, t, l', bp, fb, us', i1, i2, i3, i4, i5, i6⟩ := B3.inner
              refine ⟨_, rfl, _, rfl, W, _, _, _, rfl, rfl, SqL.of i1, i3, t, _, _, _, rfl, rfl, SqT.of (B3.s1 _ _ i4), atI_nat (j := 1) rfl, .inl ⟨rfl, _, SqL.of i5⟩, ?_⟩
              refine ⟨_, rfl, p, _, dx, _, _, rfl, s3 _ _ r1, T.cPattern, T.nPattern_rows, rfl, ra, _, rfl, .inl (SqL.of (s3 _ _ r2)), small' (by decide), fun e1 he1 => ⟨small' (by decide), fun e2 he2 => ⟨small' (by show 3 ≤ 16000000; decide), fun t3 ht3 => ?_⟩⟩⟩
              have s4 : Same H3 (upd (upd (upd H3 e1 (.lst [])) e2 (.lst [])) t3 (.tup [.int ((rs.map V.ref).length : Int), .ref e1, .ref e2])) := same_put (same_put (same_new he1) ((same_new he1).free he2)) ((same_put (same_new he1) ((same_new he1).free he2)).free ht3)
              have hH6 : upd (upd (upd H3 e1 (.lst [])) e2 (.lst [])) t3 (.tup [.int ((rs.map V.ref).length : Int), .ref e1, .ref e2]) t3 = some (.tup [.int (rows.length : Int), .ref e1, .ref e2]) := by rw [upd_same, List.length_map, hrl]
              generalize upd (upd (upd H3 e1 (.lst [])) e2 (.lst [])) t3 (.tup [.int ((rs.map V.ref).length : Int), .ref e1, .ref e2]) = H6 at s4 hH6 ⊢
              have ht3' : H t3 = none := s13.free ((same_put (same_new he1) ((same_new he1).free he2)).free ht3)
              have B6 := hB.grow (s13.trans s4)
              have gm : Same (Grow F H H3) (Grow F H H6) := grow_mono s4
              have hP : PartAt (Grow F H H6) (.row rows.length (words.getD 1 []) l) (.ref t3) := ⟨t3, e1, e2, rfl, by rw [grow_new ht3']; exact hH6⟩
              have B7 := B6.push (s4 _ _ i1) i3 (gm _ _ i4) (s4 _ _ i5) hP
              refine ⟨bp, _, _, rfl, rfl, s4 _ _ i5, small (by omega), ?_⟩
              generalize upd H6 bp (.lst (us' ++ [.ref t3])) = H7 at B7 ⊢
              obtain ⟨dx7, la7, ca7, ra7, pa7, rs7, v1, v2, v3, v4⟩ := B7.rowsAt
              have gF := (grow_same (H' := H6) hB.s1)
              have f7 := gF.trans B7.s1
              refine ⟨_, rfl, p, _, dx7, _, _, rfl, v1, T.cPattern, T.nPattern_rows, rfl, .inl ⟨rfl, _, SqL.of v2⟩, ?_⟩
              refine ⟨_, rfl, a, _, _, _, rfl, rfl, SqL.of (f7 _ _ fy1), atI_nat (j := 1) hy3, _, rfl, small' (by show 2 ≤ 16000000; decide), fun t4 ht4 => ?_⟩
              have s7 : Same H7 (upd H7 t4 (.tup [.ref b, .ref q])) := same_new ht4
              have B8 := B7.grow s7
              have g8 := grow_same (H' := upd H7 t4 (.tup [.ref b, .ref q])) B7.s1
              have s36 := s3.trans s4
              have hx : RowAt (Grow (Grow F H H6) H7 (upd H7 t4 (.tup [.ref b, .ref q]))) t4 (words.getD 1 [], l) := by
                refine ⟨b, q, us, by rw [grow_new ht4, upd_same], g8 _ _ (gF _ _ fy4), g8 _ _ ?_, hus.mono fun z o hz => g8 _ _ ?_⟩
                · rw [grow_new (s1.free hq0)]; exact s36 _ _ hq
                · obtain ⟨z1, z2⟩ := off_some hz
                  rw [grow_new (s1.free z1)]; exact s36 _ _ z2
              refine ⟨ra7, _, _, rfl, rfl, s7 _ _ v2, small (by rw [List.length_map, paired_len v3]; omega), ?_⟩
              exact hok c4 c5 _ _ (B8.row (s7 _ _ v1) rfl (s7 _ _ v2) hx)
    · refine if_true_of (by rw [decide_eq_false c2]; rfl) (if_true_of rfl ⟨_, _, rfl, (hbad (rowR_long (by omega))).at_ s0⟩)
  · refine if_false_of (decide_eq_false c1) ⟨_, rfl, if_true_of rfl (if_true_of rfl ⟨_, _, rfl, (hbad (rowR_short (by omega))).at_ s0⟩)⟩
end
end Kn
namespace Kn
open PySem PySem.Spec PyProof.Rows L2
open Vbktaa (Form Size Item Items Part Parts idxOf NAMES rowIn word isName)
theorem kind_row {ss : List Size} {ws : List (List Nat)} (h : ws.head? = some (word "row")) : kindOf (snm ss) ws = match rowR ss ws with
    | none => .bad
    | some x => .row x.1 x.2 := by
  match ws, h with
  | [w], h =>
    have e : w = word "row" := Option.some.inj h
    subst e
    rfl
  | w :: n :: r, h =>
    have e : w = word "row" := Option.some.inj h
    subst e
    unfold kindOf rowR
    rw [if_neg (by intro z; exact absurd (List.cons.inj z).1 (by decide)), if_neg (by intro z; exact absurd (List.cons.inj z).1 (by decide))]
    dsimp only
    rw [if_pos rfl]
    rw [show Vbktaa.WORDS = 40 from rfl]
    by_cases c : isName n = false ∨ 40 < (word "row" :: n :: r).length
    · rw [if_pos c, if_pos c]
    · rw [if_neg c, if_neg c]
      cases rowIn (snm ss) r with
      | none => rfl
      | some l => rfl
def againR (ss : List Size) (ws : List (List Nat)) : Option Form := if ws.length = 2 then Vbktaa.formOf (snm ss) (ws.getD 1 []) else none
theorem kind_again {ss : List Size} {ws : List (List Nat)} (h : ws.head? = some (word "again")) : kindOf (snm ss) ws = match againR ss ws with
    | none => .bad
    | some t => .again t := by
  match ws, h with
  | [w], h =>
    have e : w = word "again" := Option.some.inj h
    subst e
    rfl
  | w :: n :: r, h =>
    have e : w = word "again" := Option.some.inj h
    subst e
    unfold kindOf againR
    rw [if_neg (by intro z; exact absurd (List.cons.inj z).1 (by decide)), if_neg (by intro z; exact absurd (List.cons.inj z).1 (by decide))]
    dsimp only
    rw [if_neg (by decide)]
    cases r with
    | nil =>
      rw [if_pos ⟨rfl, rfl⟩]
      cases e : Vbktaa.formOf (snm ss) n with
      | none => simp [e]
      | some t => simp [e]
    | cons x y =>
      rw [if_neg (by intro z; exact absurd z.2 (by simp))]
      rfl
theorem kind_bad {ss : List Size} {ws : List (List Nat)} (h1 : ws.head? ≠ some (word "row")) (h2 : ws.head? ≠ some (word "again")) (h3 : ws ≠ [word "end"]) (h4 : ws ≠ [word "off"]) : kindOf (snm ss) ws = .bad := by
  unfold kindOf
  rw [if_neg h4, if_neg h3]
  match ws with
  | [] => rfl
  | [_] => rfl
  | w :: n :: r =>
    dsimp only
    rw [if_neg (fun e => h1 (by rw [e]; rfl)), if_neg (fun e => h2 (by rw [e.1]; rfl))]
section
variable {P : Program} {w : World} {K : PySem.W.Frag} {mg : Str → Option Value} {base : Heap}
theorem BodyS.more {F0 F H : Hp} {p W : Addr} {ss : List Size} {c : Form} {rows : List (List Nat × Items)} {o : Open} {m m' : Nat} (h : BodyS K F0 F H p W ss c rows o m) (hm : m ≤ m') : BodyS K F0 F H p W ss c rows o m' := by
  obtain ⟨dx, la, ca, ra, pa, t0, e0, as, rs, obs, us0, h1, h2, h3, h4, h5, h6, h7, h8, h9, h10, hl, h11, h12, h13, h14⟩ := h.ex
  refine ⟨⟨dx, la, ca, ra, pa, t0, e0, as, rs, obs, us0, h1, h2, h3, h4, h5, h6, h7, h8, h9, h10, by omega, h11, fun x hx => ?_, h13, h14⟩, h.named, h.len, h.s0, h.s1⟩
  obtain ⟨fb, us, k1, k2, k3, k4, k5⟩ := h12 x hx
  exact ⟨fb, us, k1, k2, k3, k4, by omega⟩
/-- the state while a text is read -/
def RS (K : PySem.W.Frag) (F0 F H : Hp) (p W : Addr) (s : RD) (m : Nat) : Prop := match s.cast with
  | none => HeadS K F0 F H p W s.ss ∧ s.rows = [] ∧ s.o = ⟨[], .nil⟩
  | some c => BodyS K F0 F H p W s.ss c s.rows s.o m
theorem RS_body {F0 F H : Hp} {p W : Addr} {s : RD} {m : Nat} {c : Form} (h : s.cast = some c) : RS K F0 F H p W s m ↔ BodyS K F0 F H p W s.ss c s.rows s.o m := by
  unfold RS
  rw [h]
theorem RS_head {F0 F H : Hp} {p W : Addr} {s : RD} {m : Nat} (h : s.cast = none) : RS K F0 F H p W s m ↔ HeadS K F0 F H p W s.ss ∧ s.rows = [] ∧ s.o = ⟨[], .nil⟩ := by
  unfold RS
  rw [h]
def LineQ (K : PySem.W.Frag) (F0 : Hp) (p W : Addr) (n m : Nat) (x : (Nat × Nat) ⊕ (RD × Bool)) (Q : VK) (E : XK) : Prop := match x with
  | .inl e => Errs K F0 E (if e.1 = n then 0 else (e.1 : Int)) (e.2 : Int)
  | .inr y => ∀ H' F', RS K F0 F' H' p W y.1 (m + 1) → Q (.bl y.2) H'
def spPart (K : PySem.W.Frag) : Sp := fun vs H Q E => ∃ (F0 F : Hp) (p a W : Addr) (n : Nat) (words : List (List Nat)) (s : RD) (c : Form) (m : Nat), vs = [.ref p, .ref a, .ref W, .int (n : Int)] ∧ s.cast = some c ∧ BodyS K F0 F H p W s.ss c s.rows s.o m ∧ Fit n s ∧ m ≤ 3000 ∧ TxtsAt F a words ∧ Short words ∧ [10] ∉ words ∧ words ≠ [] ∧
  LineQ K F0 p W n m (stepR n s words) Q E
theorem sc_read_part : FnScope ["pattern", "words", "within", "line"] ["pattern", "words", "within", "line"] (defScope s_read_part) := ⟨rfl, rfl, rfl, by decide +kernel, rfl, by decide +kernel, by decide +kernel⟩
theorem Errs.here {F E} {n : Nat} {y : Int} (h : Errs K F E (if n = n then 0 else (n : Int)) y) : Errs K F E 0 y := by rw [if_pos rfl] at h; exact h
theorem ok_read_part (T : Txt K mg) (R : RaiW P w K mg base) (D : Def K mg "read_part" s_read_part) (c_signs_of : Cal P w K mg base CX0 1 "signs_of" ["word"] spSigns) (c_read_row : Cal P w K mg base (L2.CX P w) 15 "read_row" ["pattern", "words", "within"] (spReadRow K))
    (c_begin_block : Cal P w K mg base (L2.CX P w) 6 "begin_block" ["pattern", "words", "within", "line"] (spBegin K)) (c_end_block : Cal P w K mg base (L2.CX P w) 3 "end_block" ["within"] (spEnd K)) (c_read_off : Cal P w K mg base (L2.CX P w) 3 "read_off" ["within"] (spReadOff K)) :
    Cal P w K mg base (L2.CX P w) 16 "read_part" ["pattern", "words", "within", "line"] (spPart K) := by
  have sc := sc_read_part
  refine Cal.mk' D sc (fun _ _ _ _ _ _ us hl => match us, hl with | [_, _, _, _], _ => rfl) (fun vs H Q E h => ?_) (fun f cdv A outer s H vs Q E hr h => ?_)
  · obtain ⟨_, _, _, _, _, _, _, _, _, _, rfl, _⟩ := h; rfl
  obtain ⟨F0, F, p, a, W, n, words, st, c, m, rfl, hc, hB, hF, hm, hW, hsh, hn10, hne, hL⟩ := h
  refine ⟨_, (pss_cons (ps_if (pt_cmpR (op_eqT hr.units) (pe_ix ix_list (pv 1) pe_int (fun _ _ => rfl)) (pe_f c_signs_of hr pass0 (pa_cons pe_str pa_nil)) (nomark _)) (pss_one (ps_expr (pe_f c_read_row hr passR (pa_cons (pv 0) (pa_cons (pv 1) (pa_cons (pv 2) pa_nil)))))) (pss_one (ps_if (pt_cmpR (op_eqT hr.units) (pe_ix ix_list (pv 1) pe_int (fun _ _ => rfl)) (pe_f c_signs_of hr pass0 (pa_cons pe_str pa_nil)) (nomark _)) (pss_one (ps_expr (pe_f c_begin_block hr passR (pa_cons (pv 0) (pa_cons (pv 1) (pa_cons (pv 2) (pa_cons (pv 3) pa_nil))))))) (pss_one (ps_if (pt_cmpR (op_eqTL hr.units) (pv 1) (pe_lst (pa_cons (pe_f c_signs_of hr pass0 (pa_cons pe_str pa_nil)) pa_nil)) (nomark _)) (pss_one (ps_expr (pe_f c_end_block hr passR (pa_cons (pv 2) pa_nil)))) (pss_one (ps_if (pt_cmpR (op_eqTL hr.units) (pv 1) (pe_lst (pa_cons (pe_f c_signs_of hr pass0 (pa_cons pe_str pa_nil)) pa_nil)) (nomark _)) (pss_cons (ps_expr (pe_f c_read_off hr passR (pa_cons (pv 2) pa_nil)))
          (pss_one (ps_ret pe_bl))) (pss_one (ps_raise rfl (takes_of rfl rfl rfl rfl) (pmk_Wrong R hr (mono_cons mono_c (mono_cons mono_c mono_nil)) (pa_cons pe_int (pa_cons pe_int pa_nil))))))))))))
  (pss_one (ps_ret pe_bl))), ?_⟩
  have s0 : Same F0 H := hB.s0.trans hB.s1
  have hlen : 0 < words.length := List.length_pos_iff.mpr hne
  have h0 := getD_at hlen
  have hhead : words.head? = some (words.getD 0 []) := by rw [List.head?_eq_getElem?, h0]
  obtain ⟨ys, b, fy1, hy2, hy3, fy4⟩ := txts_get (K := K) hW h0
  obtain ⟨wa, fw1, fw2⟩ := hW
  have hWt : TxtsAt F a words := ⟨wa, fw1, fw2⟩
  unfold stepR at hL
  rw [hc] at hL
  dsimp only at hL
  refine ⟨_, rfl, a, _, _, _, rfl, rfl, SqL.of (hB.s1 _ _ fy1), atI_nat (j := 0) hy3, _, rfl, len_cps cps_row (by decide), fun H1 q1 s1 hq1 hq1' => ?_⟩
  rw [cps_row] at hq1'
  have B1 := hB.grow s1
  have g1 := grow_same (H' := H1) hB.s1
  refine ⟨b, q1, _, _, rfl, rfl, SqL.of (s1 _ _ (hB.s1 _ _ fy4)), SqL.of hq1', _, rfl, ?_⟩
  by_cases c1 : words.getD 0 [] = word "row"
  · refine if_true_of (decide_eq_true c1) ?_
    rw [kind_row (by rw [hhead, c1])] at hL
    refine ⟨_, rfl, _, rfl, _, rfl, F0, _, p, a, W, words, st.ss, c, st.rows, st.o, m, rfl, B1, hF.deep, hm, hF.rows, hWt.mono g1, hsh, hn10, fun e => ?_, fun x e => ?_⟩
    · rw [e] at hL
      exact Errs.here hL
    · rw [e] at hL
      dsimp only at hL
      refine ⟨fun e2 => ?_, fun e2 e3 => ?_, fun e2 e3 H2 F2 B2 => ?_⟩
      · rw [if_pos (show st.nms.contains x.1 = true from e2)] at hL
        exact Errs.here hL
      · rw [if_neg (show ¬ st.nms.contains x.1 = true by rw [show st.nms.contains x.1 = false from e2]; exact Bool.noConfusion), if_pos (by omega)] at hL
        exact Errs.here hL
      · rw [if_neg (show ¬ st.nms.contains x.1 = true by rw [show st.nms.contains x.1 = false from e2]; exact Bool.noConfusion), if_neg (by have := hF.rows; omega)] at hL
        exact hL H2 F2 B2
  · refine if_false_of (decide_eq_false c1) ?_
    have n1 : words.head? ≠ some (word "row") := fun e => c1 (by rw [hhead] at e; exact Option.some.inj e)
    refine ⟨_, rfl, a, _, _, _, rfl, rfl, SqL.of (s1 _ _ (hB.s1 _ _ fy1)), atI_nat (j := 0) hy3, _, rfl, len_cps cps_again (by decide), fun H2 q2 s2 hq2 hq2' => ?_⟩
    rw [cps_again] at hq2'
    have s12 := s1.trans s2
    have B2 := hB.grow s12
    have g2 := grow_same (H' := H2) hB.s1
    refine ⟨b, q2, _, _, rfl, rfl, SqL.of (s12 _ _ (hB.s1 _ _ fy4)), SqL.of hq2', _, rfl, ?_⟩
    by_cases c2 : words.getD 0 [] = word "again"
    · refine if_true_of (decide_eq_true c2) ?_
      rw [kind_again (by rw [hhead, c2])] at hL
      have eA : againR st.ss words = if words.length = 2 then formI (st.ss.map sgn) (words.getD 1 []) else none := by
        unfold againR formI
        rw [snm_lets hB.named]
      rw [eA] at hL
      refine ⟨_, rfl, _, rfl, _, rfl, _, rfl, F0, _, p, a, W, n, words, st.ss, c, st.rows, st.o, m, rfl, B2, hF.deep, hWt.mono g2, hsh, fun hno => ?_, fun fm e1 e2 => ?_⟩
      · have en : (if words.length = 2 then formI (st.ss.map sgn) (words.getD 1 []) else none) = none := by
          by_cases z : words.length = 2
          · rw [if_pos z]
            cases e : formI (st.ss.map sgn) (words.getD 1 []) with
            | none => rfl
            | some fm => exact absurd ⟨z, fm, e⟩ hno
          · rw [if_neg z]
        rw [en] at hL
        exact Errs.here hL
      · rw [if_pos e1, e2] at hL
        dsimp only at hL
        refine ⟨fun e3 => ?_, fun e3 H3 F3 B3 => ?_⟩
        · rw [if_pos e3] at hL
          exact Errs.here hL
        · rw [if_neg e3] at hL
          exact hL H3 F3 (B3.more (Nat.le_succ _))
    · refine if_false_of (decide_eq_false c2) ?_
      have n2 : words.head? ≠ some (word "again") := fun e => c2 (by rw [hhead] at e; exact Option.some.inj e)
      refine ⟨_, rfl, _, rfl, len_cps cps_end (by decide), fun H3 q3 s3 hq3 hq3' => ⟨small' (by show 1 ≤ 16000000; decide), fun l3 hl3 => ?_⟩⟩
      rw [cps_end] at hq3'
      have s13 := s12.trans s3
      have s14 := same_put (o := .lst [.ref q3]) s13 (s13.free hl3)
      have hW4 := (fw2.mono hB.s1).mono s14
      refine ⟨a, l3, wa, [q3], words, [word "end"], rfl, rfl, SqL.of (s14 _ _ (hB.s1 _ _ fw1)), paired_mono (fun _ _ z => SqL.of z) hW4, SqL.of upd_same, .cons (SqL.of (put_at hl3 hq3')) .nil, _, rfl, ?_⟩
      by_cases c3 : words = [word "end"]
      · refine if_true_of (decide_eq_true c3) ?_
        have ek : kindOf (snm st.ss) words = .fin := by rw [c3]; rfl
        rw [ek] at hL
        dsimp only at hL
        have B4 := hB.grow s14
        refine ⟨_, rfl, F0, _, p, W, st.ss, c, st.rows, st.o, m, rfl, B4, hF.deep, hm, fun e => ?_, fun bk r e => ⟨fun e2 => ?_, fun e2 H5 F5 B5 => ?_⟩⟩
        · rw [e] at hL
          exact Errs.here hL
        · rw [e] at hL
          dsimp only at hL
          rw [e2] at hL
          have hl := hF.line bk (by rw [e]; exact List.mem_cons_self ..)
          have hL' : Errs K F0 E (if bk.line = n then 0 else (bk.line : Int)) 5 := hL
          rw [if_neg (by omega)] at hL'
          exact hL'
        · rw [e] at hL
          dsimp only at hL
          cases eb : bk.parts with
          | nil => exact absurd eb e2
          | cons x y =>
            rw [eb] at hL B5
            exact hL H5 F5 B5
      · refine if_false_of (decide_eq_false c3) ?_
        refine ⟨_, rfl, _, rfl, len_cps cps_off (by decide), fun H5 q5 s5 hq5 hq5' => ⟨small' (by show 1 ≤ 16000000; decide), fun l5 hl5 => ?_⟩⟩
        rw [cps_off] at hq5'
        have s15 := s14.trans s5
        have s16 := same_put (o := .lst [.ref q5]) s15 (s15.free hl5)
        have hW6 := (fw2.mono hB.s1).mono s16
        refine ⟨a, l5, wa, [q5], words, [word "off"], rfl, rfl, SqL.of (s16 _ _ (hB.s1 _ _ fw1)), paired_mono (fun _ _ z => SqL.of z) hW6, SqL.of upd_same, .cons (SqL.of (put_at hl5 hq5')) .nil, _, rfl, ?_⟩
        by_cases c4 : words = [word "off"]
        · refine if_true_of (decide_eq_true c4) ?_
          have ek : kindOf (snm st.ss) words = .off := by rw [c4]; rfl
          rw [ek] at hL
          dsimp only at hL
          have B6 := hB.grow s16
          refine ⟨_, rfl, F0, _, p, W, st.ss, c, st.rows, st.o, m, rfl, B6, hF.deep, fun e => ?_, fun e1 e2 H7 s7 => ?_⟩
          · by_cases z : st.o.blks ≠ []
            · rw [if_pos z] at hL
              exact Errs.here hL
            · rw [if_neg z] at hL
              rcases e with e | e
              · exact absurd e z
              · rw [e] at hL
                exact Errs.here hL
          · rw [if_neg (fun z => z e1)] at hL
            cases eb : st.o.base with
            | nil => exact absurd eb e2
            | cons x y =>
              rw [eb] at hL
              exact hL H7 _ ((RS_body hc).mpr ((B6.grow s7).more (Nat.le_succ m)))
        · refine if_false_of (decide_eq_false c4) ?_
          rw [kind_bad n1 n2 c3 c4] at hL
          exact ⟨_, _, rfl, (Errs.here hL).at_ (s0.trans s16)⟩
end
end Kn
namespace Kn
open PySem PySem.Spec PyProof.Rows L2
open Vbktaa (Form Size Item Items Part Parts idxOf NAMES rowIn word isName)
section
variable {P : Program} {w : World} {K : PySem.W.Frag} {mg : Str → Option Value} {base : Heap}
theorem RS.grow {F0 F H H' : Hp} {p W : Addr} {s : RD} {m : Nat} (h : RS K F0 F H p W s m) (t : Same H H') : RS K F0 (Grow F H H') H' p W s m := by
  cases e : s.cast with
  | none =>
    rw [RS_head e] at h ⊢
    exact ⟨h.1.grow t, h.2⟩
  | some c =>
    rw [RS_body e] at h ⊢
    exact h.grow t
theorem RS.s0 {F0 F H : Hp} {p W : Addr} {s : RD} {m : Nat} (h : RS K F0 F H p W s m) : Same F0 F ∧ Same F H := by
  cases e : s.cast with
  | none =>
    rw [RS_head e] at h
    exact ⟨h.1.s0, h.1.s1⟩
  | some c =>
    rw [RS_body e] at h
    exact ⟨h.s0, h.s1⟩
/-! ### read_line -/
def spLine (K : PySem.W.Frag) : Sp := fun vs H Q E => ∃ (F0 F : Hp) (p a W : Addr) (n : Nat) (words : List (List Nat)) (s : RD) (m : Nat), vs = [.ref p, .ref a, .ref W, .int (n : Int)] ∧ RS K F0 F H p W s m ∧ Fit n s ∧ m ≤ 3000 ∧ TxtsAt F a words ∧ Short words ∧ [10] ∉ words ∧ words ≠ [] ∧
  LineQ K F0 p W n m (stepR n s words) Q E
theorem sc_read_line : FnScope ["pattern", "words", "within", "line"] ["pattern", "words", "within", "line"] (defScope s_read_line) := ⟨rfl, rfl, rfl, by decide +kernel, rfl, by decide +kernel, by decide +kernel⟩
theorem head_cast {n : Nat} {s : RD} (hc : s.cast = none) {ws : List (List Nat)} (h : ws.head? ≠ some (word "size")) : stepR n s ws = match castR s.ss ws with
    | none => .inl (n, 1)
    | some c => .inr (⟨s.ss, some c, s.rows, s.o⟩, false) := by
  rw [step_head hc, if_neg h]
  match ws with
  | [] => rfl
  | [_] => rfl
  | _ :: _ :: _ :: _ => rfl
  | [w, t] =>
    unfold castR
    dsimp only
    by_cases h2 : w = word "cast"
    · rw [if_pos h2, if_pos h2] <;> (cases Vbktaa.formOf (snm s.ss) t <;> rfl)
    · rw [if_neg h2, if_neg h2]
theorem ok_read_line (T : Txt K mg) (D : Def K mg "read_line" s_read_line) (c_signs_of : Cal P w K mg base CX0 1 "signs_of" ["word"] spSigns) (c_read_part : Cal P w K mg base (L2.CX P w) 16 "read_part" ["pattern", "words", "within", "line"] (spPart K))
    (c_read_size : Cal P w K mg base (L2.CX P w) 4 "read_size" ["pattern", "words"] (spReadSize K)) (c_read_cast : Cal P w K mg base (L2.CX P w) 6 "read_cast" ["pattern", "words"] (spReadCast K)) :
    Cal P w K mg base (L2.CX P w) 17 "read_line" ["pattern", "words", "within", "line"] (spLine K) := by
  have sc := sc_read_line
  refine Cal.mk' D sc (fun _ _ _ _ _ _ us hl => match us, hl with | [_, _, _, _], _ => rfl) (fun vs H Q E h => ?_) (fun f cdv A outer s H vs Q E hr h => ?_)
  · obtain ⟨_, _, _, _, _, _, _, _, _, rfl, _⟩ := h; rfl
  obtain ⟨F0, F, p, a, W, n, words, st, m, rfl, hS, hF, hm, hW, hsh, hn10, hne, hL⟩ := h
  refine ⟨_, (pss_cons (ps_if (pt_cmpR (op_neI hr.units) (pe_fld (pv 0) rfl) (pe_lst pa_nil) (nomark _)) (pss_one (ps_ret (pe_f c_read_part hr passR (pa_cons (pv 0) (pa_cons (pv 1) (pa_cons (pv 2) (pa_cons (pv 3) pa_nil))))))) pss_nil)
  (pss_cons (ps_if (pt_cmpR (op_eqT hr.units) (pe_ix ix_list (pv 1) pe_int (fun _ _ => rfl)) (pe_f c_signs_of hr pass0 (pa_cons pe_str pa_nil)) (nomark _)) (pss_one (ps_expr (pe_f c_read_size hr passR (pa_cons (pv 0) (pa_cons (pv 1) pa_nil))))) (pss_one (ps_expr (pe_f c_read_cast hr passR (pa_cons (pv 0) (pa_cons (pv 1) pa_nil))))))
  (pss_one (ps_ret pe_bl)))), ?_⟩
  have hlen : 0 < words.length := List.length_pos_iff.mpr hne
  have h0 := getD_at hlen
  have hhead : words.head? = some (words.getD 0 []) := by rw [List.head?_eq_getElem?, h0]
  obtain ⟨ys, b, fy1, hy2, hy3, fy4⟩ := txts_get (K := K) hW h0
  cases hc : st.cast with
  | some c =>
    rw [RS_body hc] at hS
    obtain ⟨dx, la, ca, ra, pa, rs, r1, r2, r3, r4⟩ := hS.rowsAt
    refine ⟨_, rfl, p, _, dx, _, _, rfl, r1, T.cPattern, T.nPattern_cast, rfl, small' (by decide), fun e1 he1 => ?_⟩
    have s1 : Same H (upd H e1 (.lst [])) := same_new he1
    refine ⟨ca, e1, fL c, [], rfl, rfl, SqL.of (s1 _ _ (hS.s1 _ _ r4)), SqL.of upd_same, _, rfl, ?_⟩
    refine if_true_of (by rw [decide_eq_false (show ¬ fL c = [] from fun e => nomatch e)]; rfl) ?_
    exact ⟨_, rfl, _, rfl, _, rfl, _, rfl, F0, _, p, a, W, n, words, st, c, m, rfl, hc, hS.grow s1, hF, hm, hW.mono (grow_same hS.s1), hsh, hn10, hne, hL⟩
  | none =>
    rw [RS_head hc] at hS
    obtain ⟨hS, er, eo⟩ := hS
    obtain ⟨dx, la, ca, ra, pa, t0, e0, as, k1, k2, k3, k4, k5, k6, _⟩ := hS.ex
    refine ⟨_, rfl, p, _, dx, _, _, rfl, k1, T.cPattern, T.nPattern_cast, rfl, small' (by decide), fun e1 he1 => ?_⟩
    have s1 : Same H (upd H e1 (.lst [])) := same_new he1
    refine ⟨ca, e1, [], [], rfl, rfl, SqL.of (s1 _ _ (hS.s1 _ _ k6)), SqL.of upd_same, _, rfl, ?_⟩
    refine if_false_of (by rw [decide_eq_true rfl]; rfl) ?_
    refine ⟨_, rfl, a, _, _, _, rfl, rfl, SqL.of (s1 _ _ (hS.s1 _ _ fy1)), atI_nat (j := 0) hy3, _, rfl, len_cps cps_size (by decide), fun H1 q1 s2 hq1 hq1' => ?_⟩
    rw [cps_size] at hq1'
    have s12 := s1.trans s2
    have g1 := grow_same (H' := H1) hS.s1
    refine ⟨b, q1, _, _, rfl, rfl, SqL.of (s12 _ _ (hS.s1 _ _ fy4)), SqL.of hq1', _, rfl, ?_⟩
    by_cases c1 : words.getD 0 [] = word "size"
    · refine if_true_of (decide_eq_true c1) ?_
      rw [step_head hc, if_pos (by rw [hhead, c1])] at hL
      refine ⟨_, rfl, _, rfl, F0, _, p, a, W, words, st.ss, rfl, hS.grow s12, hW.mono g1, hsh, fun k e => ?_, fun z e H2 F2 S2 => ?_⟩
      · rw [e] at hL
        exact Errs.here hL
      · rw [e] at hL
        refine hL H2 F2 ?_
        rw [RS_head rfl]
        exact ⟨S2, er, eo⟩
    · refine if_false_of (decide_eq_false c1) ?_
      rw [head_cast hc (fun e => c1 (by rw [hhead] at e; exact Option.some.inj e))] at hL
      refine ⟨_, rfl, _, rfl, F0, _, p, a, W, words, st.ss, rfl, hS.grow s12, hW.mono g1, hsh, fun e => ?_, fun c e H2 F2 B2 => ?_⟩
      · rw [e] at hL
        exact Errs.here hL
      · rw [e] at hL
        refine hL H2 F2 ?_
        rw [RS_body rfl]
        show BodyS K F0 F2 H2 p W st.ss c st.rows st.o (m + 1)
        rw [er, eo]
        exact B2.more (Nat.zero_le _)
/-! ### line_read -/
def ReadQ (K : PySem.W.Frag) (F0 : Hp) (p W : Addr) (m : Nat) (x : (Nat × Nat) ⊕ (RD × Bool)) (Q : VK) : Prop := match x with
  | .inl e => ∀ (H' : Hp) (q f : Addr), Same F0 H' → H' q = some (.tup [.bl false, .ref f]) → H' f = some (.tup [.int (e.1 : Int), .int (e.2 : Int)]) → Q (.ref q) H'
  | .inr y => ∀ (H' F' : Hp) (q : Addr), RS K F0 F' H' p W y.1 (m + 1) → H' q = some (.tup [.bl y.2, .non]) → Q (.ref q) H'
def spLineRead (K : PySem.W.Frag) : Sp := fun vs H Q _ => ∃ (F0 F : Hp) (p a W : Addr) (n : Nat) (words : List (List Nat)) (s : RD) (m : Nat), vs = [.ref p, .ref a, .ref W, .int (n : Int)] ∧ 1 ≤ n ∧ RS K F0 F H p W s m ∧ Fit n s ∧ m ≤ 3000 ∧ TxtsAt F a words ∧ Short words ∧ [10] ∉ words ∧ words ≠ [] ∧
  ReadQ K F0 p W m (stepR n s words) Q
theorem sc_line_read : FnScope ["pattern", "words", "within", "number", "fault"] ["pattern", "words", "within", "number"] (defScope s_line_read) := ⟨rfl, rfl, rfl, by decide +kernel, rfl, by decide +kernel, by decide +kernel⟩
theorem ok_line_read (T : Txt K mg) (D : Def K mg "line_read" s_line_read) (c_read_line : Cal P w K mg base (L2.CX P w) 17 "read_line" ["pattern", "words", "within", "line"] (spLine K)) :
    Cal P w K mg base (L2.CX P w) 18 "line_read" ["pattern", "words", "within", "number"] (spLineRead K) := by
  have sc := sc_line_read
  refine Cal.mk' D sc (fun _ _ _ _ _ _ us hl => match us, hl with | [_, _, _, _], _ => rfl) (fun vs H Q E h => ?_) (fun f cdv A outer s H vs Q E hr h => ?_)
  · obtain ⟨_, _, _, _, _, _, _, _, _, rfl, _⟩ := h; rfl
  obtain ⟨F0, F, p, a, W, n, words, st, m, rfl, hn1, hS, hF, hm, hW, hsh, hn10, hne, hL⟩ := h
  refine ⟨_, (pss_one (ps_try_as (i := 4) rfl rfl sc.nd rfl rfl ⟨rfl, by decide, Or.inl T.gWrong⟩ takes0 (fun W pn xe tk _ => (pss_one (ps_ret (pe_tup (pa_cons (pe_fS c_read_line hr (fun σ => passAt tk σ) (by exact (pa_cons (pv 0) (pa_cons (pv 1) (pa_cons (pv 2) (pa_cons (pv 3) pa_nil)))))) (pa_cons pe_non pa_nil)))))) (fun a oe cls d pn hz hf => (pss_cons (ps_if (pt_cmpR op_eq (pe_xf T.xfWrong T.nWrong_line hz hf (pv 4)) pe_int (nomark _)) (pss_one (ps_ret (pe_tup (pa_cons pe_bl (pa_cons (pe_tup (pa_cons (pv 3) (pa_cons (pe_xf T.xfWrong T.nWrong_why hz hf (pv 4)) pa_nil))) pa_nil))))) pss_nil)
    (pss_one (ps_ret (pe_tup (pa_cons pe_bl (pa_cons (pe_tup (pa_cons (pe_xf T.xfWrong T.nWrong_line hz hf (pv 4)) (pa_cons (pe_xf T.xfWrong T.nWrong_why hz hf (pv 4)) pa_nil))) pa_nil))))))))), ?_⟩
  have hcs := step_cases (ws := words) hn1 hF
  refine ⟨_, rfl, _, rfl, _, rfl, _, rfl, F0, F, p, a, W, n, words, st, m, rfl, hS, hF, hm, hW, hsh, hn10, hne, ?_⟩
  cases eS : stepR n st words with
  | inl e =>
    rw [eS] at hcs hL
    dsimp only at hcs
    intro d H' sd hd
    refine ⟨true, T.eWrong, fun _ x hx => ?_, fun z => absurd z (by decide)⟩
    refine ⟨_, rfl, rfl, rfl, d, _, _, rfl, hd, rfl, rfl, _, rfl, ?_⟩
    have fin : ∀ (fa q : Addr), H' fa = none → upd H' fa (.tup [.int (e.1 : Int), .int (e.2 : Int)]) q = none → Q (.ref q) (upd (upd H' fa (.tup [.int (e.1 : Int), .int (e.2 : Int)])) q (.tup [.bl false, .ref fa])) := fun fa q hfa hq =>
      hL _ q fa (same_put (same_put sd (sd.free hfa)) ((same_put sd (sd.free hfa)).free hq)) upd_same (put_at hq upd_same)
    by_cases c1 : e.1 = n
    · rw [if_pos c1]
      refine if_true_of (decide_eq_true rfl) ⟨_, rfl, _, rfl, rfl, rfl, d, _, _, rfl, hd, rfl, small' (by show 2 ≤ 16000000; decide), fun fa hfa => ⟨small' (by show 2 ≤ 16000000; decide), fun q hq => ?_⟩⟩
      rw [← c1] at hq ⊢
      exact fin fa q hfa hq
    · rw [if_neg c1] at hd ⊢
      refine if_false_of (decide_eq_false fun z => by have := V.int.inj z; omega) ⟨_, rfl, rfl, rfl, d, _, _, rfl, hd, rfl, _, rfl, rfl, rfl, d, _, _, rfl, hd, rfl, small' (by show 2 ≤ 16000000; decide), fun fa hfa => ⟨small' (by show 2 ≤ 16000000; decide), fun q hq => fin fa q hfa hq⟩⟩
  | inr y =>
    rw [eS] at hL
    intro H' F' S'
    refine ⟨small' (by show 2 ≤ 16000000; decide), fun q hq => ?_⟩
    exact hL _ _ q (S'.grow (same_new hq)) upd_same
end
end Kn
namespace Kn
open PySem PySem.Spec PyProof.Rows L2
open Vbktaa (Form Size Item Items Part Parts idxOf NAMES rowIn word isName)
section
variable {P : Program} {w : World} {K : PySem.W.Frag} {mg : Str → Option Value} {base : Heap}
/-! ### Pattern.__init__ -/
def spPInit (K : PySem.W.Frag) : Sp := fun vs H Q _ => ∃ (p dx : Addr), vs = [.ref p] ∧ H p = some (.ins (He.ga K "Pattern") dx []) ∧
  ∀ (H' : Hp) (la ca ra pa : Addr), (∀ b o, b ≠ p → H b = some o → H' b = some o) → H la = none → H ca = none → H ra = none → H pa = none → [la, ca, ra, pa].Nodup → H' p = some (.ins (He.ga K "Pattern") dx (patF la ca ra pa)) →
    H' la = some (.lst []) → H' ca = some (.lst []) → H' ra = some (.lst []) → H' pa = some (.lst []) → Q .non H'
theorem sc_Pattern_init : FnScope ["self"] ["self"] (defScope s_Pattern_init) := ⟨rfl, rfl, rfl, by decide +kernel, rfl, by decide +kernel, by decide +kernel⟩
theorem ok_Pattern_init (T : Txt K mg) (D : DefM K (He.ga K "Pattern") "__init__" "Pattern.__init__" s_Pattern_init) : CalM P w K mg base CX0 1 (He.ma K (He.ga K "Pattern") "__init__") ["self"] (spPInit K) := by
  have sc := sc_Pattern_init
  refine CalM.mk' D sc (fun _ _ _ _ _ _ us hl => match us, hl with | [_], _ => rfl) (fun vs H Q E h => ?_) (fun cdv A outer s H vs Q E hr h => ?_)
  · obtain ⟨_, _, rfl, _⟩ := h; rfl
  obtain ⟨p, dx, rfl, hp, k⟩ := h
  refine ⟨_, PSs.nox (pss_cons (ps_fld (pv 0) (pe_lst pa_nil) rfl) (pss_cons (ps_fld (pv 0) (pe_lst pa_nil) rfl) (pss_cons (ps_fld (pv 0) (pe_lst pa_nil) rfl) (pss_one (ps_fld (pv 0) (pe_lst pa_nil) rfl))))), ?_⟩
  refine ⟨small' (by decide), fun la hla => ⟨_, rfl, p, _, dx, _, rfl, put_at hla hp, T.cPattern, T.nPattern_letters, by show 0 < 1000; decide, ?_⟩⟩
  refine ⟨small' (by decide), fun ca hca => ⟨_, rfl, p, _, dx, _, rfl, put_at hca upd_same, T.cPattern, T.nPattern_cast, by show 1 < 1000; decide, ?_⟩⟩
  refine ⟨small' (by decide), fun ra hra => ⟨_, rfl, p, _, dx, _, rfl, put_at hra upd_same, T.cPattern, T.nPattern_rows, by show 2 < 1000; decide, ?_⟩⟩
  refine ⟨small' (by decide), fun pa hpa => ⟨_, rfl, p, _, dx, _, rfl, put_at hpa upd_same, T.cPattern, T.nPattern_parts, by show 3 < 1000; decide, ?_⟩⟩
  have n1 : la ≠ p := fun e => by rw [e, hp] at hla; cases hla
  have n2 : ca ≠ p := fun e => by rw [e, upd_same] at hca; cases hca
  have n3 : ra ≠ p := fun e => by rw [e, upd_same] at hra; cases hra
  have n4 : pa ≠ p := fun e => by rw [e, upd_same] at hpa; cases hpa
  rw [upd_ne n2] at hca
  have m1 : ca ≠ la := fun e => by rw [e, upd_same] at hca; cases hca
  rw [upd_ne m1] at hca
  rw [upd_ne n3] at hra
  have m2 : ra ≠ ca := fun e => by rw [e, upd_same] at hra; cases hra
  rw [upd_ne m2, upd_ne n3] at hra
  have m3 : ra ≠ la := fun e => by rw [e, upd_same] at hra; cases hra
  rw [upd_ne m3] at hra
  rw [upd_ne n4] at hpa
  have m4 : pa ≠ ra := fun e => by rw [e, upd_same] at hpa; cases hpa
  rw [upd_ne m4, upd_ne n4] at hpa
  have m5 : pa ≠ ca := fun e => by rw [e, upd_same] at hpa; cases hpa
  rw [upd_ne m5, upd_ne n4] at hpa
  have m6 : pa ≠ la := fun e => by rw [e, upd_same] at hpa; cases hpa
  rw [upd_ne m6] at hpa
  refine k _ la ca ra pa (fun b o nb hb => ?_) hla hca hra hpa ?_ upd_same ?_ ?_ ?_ ?_
  · rw [upd_ne nb, upd_ne (ne_of_none hb hpa), upd_ne nb, upd_ne (ne_of_none hb hra), upd_ne nb, upd_ne (ne_of_none hb hca), upd_ne nb, upd_ne (ne_of_none hb hla)]
    exact hb
  · simp only [List.nodup_cons, List.mem_cons, List.not_mem_nil, or_false, not_or, not_false_eq_true, List.nodup_nil, and_true]
    exact ⟨⟨Ne.symm m1, Ne.symm m3, Ne.symm m6⟩, ⟨Ne.symm m2, Ne.symm m5⟩, Ne.symm m4⟩
  · rw [upd_ne n1, upd_ne (Ne.symm m6), upd_ne n1, upd_ne (Ne.symm m3), upd_ne n1, upd_ne (Ne.symm m1), upd_ne n1, upd_same]
  · rw [upd_ne n2, upd_ne (Ne.symm m5), upd_ne n2, upd_ne (Ne.symm m2), upd_ne n2, upd_same]
  · rw [upd_ne n3, upd_ne (Ne.symm m4), upd_ne n3, upd_same]
  · rw [upd_ne n4, upd_same]
/-! ### read_lines -/
theorem runR_cons (n : Nat) (s : RD) (ws : List (List Nat)) (rest : List (List (List Nat))) : runR n s (ws :: rest) = match stepR n s ws with
    | .inl e => .inl e
    | .inr (s', true) => if rest.isEmpty = true then .inr s' else .inl (n + 1, 5)
    | .inr (s', false) => runR (n + 1) s' rest := rfl
def init0 : RD := ⟨[], none, [], ⟨[], .nil⟩⟩
def spLines (K : PySem.W.Frag) : Sp := fun vs H Q E => ∃ (F0 : Hp) (p a dx la ca ra pa : Addr) (lines : List (List Nat)), vs = [.ref p, .ref a] ∧ Same F0 H ∧ F0 p = none ∧ F0 la = none ∧ F0 ra = none ∧ F0 pa = none ∧ [la, ca, ra, pa].Nodup ∧
  H p = some (.ins (He.ga K "Pattern") dx (patF la ca ra pa)) ∧ H la = some (.lst []) ∧ H ca = some (.lst []) ∧ H ra = some (.lst []) ∧ H pa = some (.lst []) ∧ TxtsAt F0 a lines ∧ Short lines ∧ lines.length ≤ 2500 ∧ (∀ t ∈ lines, 10 ∉ t) ∧
  (∀ e, runR 1 init0 (lines.map (Vbktaa.splitAt 32)) = .inl e → Errs K F0 E (e.1 : Int) (e.2 : Int)) ∧
  ∀ s, runR 1 init0 (lines.map (Vbktaa.splitAt 32)) = .inr s → ∀ (H' F' : Hp) (W : Addr) (m : Nat), RS K F0 F' H' p W s m → Q .non H'
theorem sc_read_lines : FnScope ["pattern", "lines", "within", "over", "number", "line", "fault"] ["pattern", "lines"] (defScope s_read_lines) := ⟨rfl, rfl, rfl, by decide +kernel, rfl, by decide +kernel, by decide +kernel⟩
theorem ok_read_lines (T : Txt K mg) (R : RaiW P w K mg base) (D : Def K mg "read_lines" s_read_lines) (c_parted : Cal P w K mg base CX0 1 "parted" ["row", "by"] (spParted K)) (c_line_read : Cal P w K mg base (L2.CX P w) 18 "line_read" ["pattern", "words", "within", "number"] (spLineRead K)) :
    Cal P w K mg base (L2.CX P w) 19 "read_lines" ["pattern", "lines"] (spLines K) := by
  have sc := sc_read_lines
  refine Cal.mk' D sc (fun _ _ _ _ _ _ us hl => match us, hl with | [_, _], _ => rfl) (fun vs H Q E h => ?_) (fun f cdv A outer s H vs Q E hr h => ?_)
  · obtain ⟨_, _, _, _, _, _, _, _, _, rfl, _⟩ := h; rfl
  obtain ⟨F0, p, a, dx, la, ca, ra, pa, lines, rfl, s0, f1, f2, f3, f4, nd, hp, hla, hca, hra, hpa, hT, hsh, hln, h10, hbad, hgood⟩ := h
  refine ⟨_, (pss_cons (ps_set (i := 2) sc.nd rfl (Or.inl rfl) (pe_lst (pa_cons (pe_tup (pa_cons pe_int (pa_cons (pe_fld (pv 0) rfl) (pa_cons (pe_lst pa_nil) pa_nil)))) pa_nil)))
  (pss_cons (ps_set (i := 3) sc.nd rfl (Or.inl rfl) pe_bl)
  (pss_cons (ps_for (passes_of rfl) rfl (pi_enum (by rfl) T.f_enumerate (pa_cons (pv 1) pa_nil)) (pg_tup rfl (pgs_cons (pg_name (i := 4) sc.nd rfl (Or.inl rfl)) (pgs_cons (pg_name (i := 5) sc.nd rfl (Or.inl rfl)) pgs_nil))) (pss_cons (ps_if (pt_val (pv 3)) (pss_one (ps_raise rfl (takes_of rfl rfl rfl rfl) (pmk_Wrong R hr (mono_cons (mono_op0 mono_var mono_c) (mono_cons mono_c mono_nil)) (pa_cons (pe_op op_add (pv 4) pe_int) (pa_cons pe_int pa_nil))))) pss_nil)
    (pss_cons (ps_asg (pe_f c_line_read hr passR (pa_cons (pv 0) (pa_cons (pe_f c_parted hr pass0 (pa_cons (pv 5) (pa_cons (pe_gi T.i_BLANK) pa_nil))) (pa_cons (pv 2) (pa_cons (pe_op op_add (pv 4) pe_int) pa_nil))))) (pg_tup rfl (pgs_cons (pg_name (i := 3) sc.nd rfl (Or.inl rfl)) (pgs_cons (pg_name (i := 6) sc.nd rfl (Or.inl rfl)) pgs_nil))))
    (pss_one (ps_if (pt_cmpR op_notN (pv 6) pe_non (nomark _)) (pss_one (ps_raise rfl (takes_of rfl rfl rfl rfl) (pmk_Wrong R hr (mono_cons (mono_ixT mono_var mono_c) (mono_cons (mono_ixT mono_var mono_c) mono_nil)) (pa_cons (pe_ix ix_tup (pv 6) pe_int (fun _ _ => rfl)) (pa_cons (pe_ix ix_tup (pv 6) pe_int (fun _ _ => rfl)) pa_nil))))) pss_nil)))))
  (pss_one (ps_if (pt_not (pt_val (pv 3))) (pss_one (ps_raise rfl (takes_of rfl rfl rfl rfl) (pmk_Wrong R hr (mono_cons (mono_op0 (mono_len (mono_cons mono_var mono_nil)) mono_c) (mono_cons mono_c mono_nil)) (pa_cons (pe_op op_add (pe_callB call_len_seq (by rfl) T.f_len (by decide +kernel) (pa_cons (pv 1) pa_nil)) pe_int) (pa_cons pe_int pa_nil))))) pss_nil))))), ?_⟩
  refine ⟨_, rfl, p, _, dx, _, _, rfl, hp, T.cPattern, T.nPattern_parts, rfl, small' (by decide), fun e0 he0 => ⟨small' (by show 3 ≤ 16000000; decide), fun t0 ht0 => ⟨small' (by show 1 ≤ 16000000; decide), fun W hW => ?_⟩⟩⟩
  obtain ⟨as', ha1, ha2⟩ := hT
  have hlen := paired_len ha2
  simp only [List.nodup_cons, List.mem_cons, List.not_mem_nil, or_false, not_or, not_false_eq_true, List.nodup_nil, and_true] at nd
  obtain ⟨⟨d1, d2, d3⟩, ⟨d4, d5⟩, d6⟩ := nd
  have sG : Same H (upd (upd (upd H e0 (.lst [])) t0 (.tup [.int 0, .ref pa, .ref e0])) W (.lst [.ref t0])) := same_put (same_put (same_new he0) ((same_new he0).free ht0)) ((same_put (same_new he0) ((same_new he0).free ht0)).free hW)
  have gW : upd (upd (upd H e0 (.lst [])) t0 (.tup [.int 0, .ref pa, .ref e0])) W (.lst [.ref t0]) W = some (.lst [.ref t0]) := upd_same
  have gt : upd (upd (upd H e0 (.lst [])) t0 (.tup [.int 0, .ref pa, .ref e0])) W (.lst [.ref t0]) t0 = some (.tup [.int 0, .ref pa, .ref e0]) := put_at hW upd_same
  have hWH : H W = none := (same_put (same_new he0) ((same_new he0).free ht0)).free hW
  generalize upd (upd (upd H e0 (.lst [])) t0 (.tup [.int 0, .ref pa, .ref e0])) W (.lst [.ref t0]) = G at sG gW gt ⊢
  have npl : p ≠ la := fun e => by rw [e, hla] at hp; cases hp
  have S0 : HeadS K F0 (del (del G p) la) G p W [] := by
    have stay : ∀ b o, G b = some o → b ≠ p → b ≠ la → del (del G p) la b = some o := fun b o hb n1 n2 => by rw [del_ne n2, del_ne n1]; exact hb
    refine ⟨⟨dx, la, ca, ra, pa, t0, e0, [], sG _ _ hp, ?_, sG _ _ hla, del_same, .nil, stay _ _ (sG _ _ hca) (fun e => by rw [← e, hca] at hp; cases hp) (Ne.symm d1), stay _ _ (sG _ _ hra) (fun e => by rw [← e, hra] at hp; cases hp) (Ne.symm d2), stay _ _ (sG _ _ hpa) (fun e => by rw [← e, hpa] at hp; cases hp) (Ne.symm d3), d6, stay _ _ gW (fun e => by rw [e, hp] at hWH; cases hWH) (fun e => by rw [e, hla] at hWH; cases hWH),
      stay _ _ gt (fun e => by rw [e, sG _ _ hp] at gt; cases gt) (fun e => by rw [e, sG _ _ hla] at gt; cases gt), f3, f4, s0.free hWH⟩, fun s hs => absurd hs (List.not_mem_nil), by show 0 ≤ 2; omega, fun b o hb => ?_, fun b o hb => ?_⟩
    · rw [del_ne npl, del_same]
    · exact stay _ _ (sG _ _ (s0 _ _ hb)) (fun e => by rw [e, f1] at hb; cases hb) (fun e => by rw [e, f2] at hb; cases hb)
    · by_cases e1 : b = la
      · rw [e1, del_same] at hb; cases hb
      · rw [del_ne e1] at hb
        by_cases e2 : b = p
        · rw [e2, del_same] at hb; cases hb
        · rw [del_ne e2] at hb; exact hb
  refine ⟨_, rfl, a, _, rfl, SqL.of (sG _ _ (s0 _ _ ha1)), for_it walk_enum (fun i σ H' => ∃ (over : Bool) (v4 v5 v6 : Option V) (F : Hp) (s : RD), σ = [some (.ref p), some (.ref a), some (.ref W), some (.bl over), v4, v5, v6] ∧ RS K F0 F H' p W s i ∧ Fit (i + 1) s ∧
      (if over = true then runR 1 init0 (lines.map (Vbktaa.splitAt 32)) = (if ((lines.map (Vbktaa.splitAt 32)).drop i).isEmpty = true then .inr s else .inl (i + 1, 5)) else runR 1 init0 (lines.map (Vbktaa.splitAt 32)) = runR (i + 1) s ((lines.map (Vbktaa.splitAt 32)).drop i)))
    ⟨false, none, none, none, _, init0, rfl, (RS_head rfl).mpr ⟨S0, rfl, rfl⟩, Fit.start [], by rw [if_neg Bool.false_ne_true, List.drop_zero]⟩ (fun i σ H' _ ⟨_, _, _, _, F, s, _, q, _⟩ => SqL.of ((q.s0.1.trans q.s0.2) _ _ ha1)) ?_ ?_⟩
  · rintro i x σ H1 H2 hi ⟨over, v4, v5, v6, F, s, rfl, hS, hF, hE⟩ ⟨T', x1, x2, rfl, hT', rfl, hx1, hx2⟩
    have ex1 := Option.some.inj hx1
    subst ex1
    obtain ⟨b, hb, rfl⟩ := map_get hx2
    obtain ⟨t, ht, hbt⟩ := paired_get ha2 hb
    have s2 : Same H1 (upd H1 T' (.tup [.int (i : Nat), .ref b])) := same_new hT'
    have hS2 := hS.grow s2
    have hil : i < lines.length := by rw [List.length_map, hlen] at hi; exact hi
    refine ⟨T', _, rfl, SqT.of upd_same, rfl, _, _, rfl, _, _, rfl, rfl, ?_⟩
    have hwi : (lines.map (Vbktaa.splitAt 32))[i]? = some (Vbktaa.splitAt 32 t) := by rw [List.getElem?_map, ht]; rfl
    have hdr : (lines.map (Vbktaa.splitAt 32)).drop i = Vbktaa.splitAt 32 t :: (lines.map (Vbktaa.splitAt 32)).drop (i + 1) := by
      have hl : i < (lines.map (Vbktaa.splitAt 32)).length := by rw [List.length_map]; exact hil
      rw [List.drop_eq_getElem_cons hl]
      rw [List.getElem?_eq_getElem hl] at hwi
      rw [Option.some.inj hwi]
    have s02 := hS2.s0.1.trans hS2.s0.2
    refine ⟨_, rfl, _, rfl, ?_⟩
    cases over with
    | true =>
      rw [if_pos rfl, hdr, if_neg (by simp)] at hE
      exact if_true_of rfl ⟨_, rfl, _, _, rfl, rfl, _, _, rfl, (hbad _ hE).at_ s02⟩
    | false =>
      rw [if_neg Bool.false_ne_true, hdr] at hE
      have htm : t ∈ lines := List.mem_of_getElem? ht
      refine if_false_of rfl ⟨_, rfl, _, rfl, b, t, 32, rfl, SqL.of (s02 _ _ hbt), hsh t htm, fun H3 q s3 hq hq3 => ?_⟩
      have hS3 := hS2.grow s3
      refine ⟨_, rfl, _, rfl, _, _, rfl, rfl, F0, _, p, q, W, i + 1, Vbktaa.splitAt 32 t, s, i, rfl, by omega, hS3, hF, by omega, hq3.mono grow_off, fun w hw => Nat.le_trans (splitAt_mem_len hw) (hsh t htm), fun hw => h10 t htm (splitAt_mem t _ hw 10 (by simp)), splitAt_ne 32 t, ?_⟩
      have hcs := step_cases (ws := Vbktaa.splitAt 32 t) (by omega) hF
      rw [runR_cons] at hE
      cases eS : stepR (i + 1) s (Vbktaa.splitAt 32 t) with
      | inl e =>
        rw [eS] at hE
        intro H4 q4 f4 s4 hq4 hf4
        refine ⟨q4, _, rfl, SqT.of hq4, rfl, _, _, rfl, _, _, rfl, rfl, ?_⟩
        refine ⟨_, rfl, rfl, _, rfl, if_true_of rfl ⟨_, rfl, f4, _, _, _, rfl, rfl, SqT.of hf4, atI_nat (j := 0) rfl, _, rfl, f4, _, _, _, rfl, rfl, SqT.of hf4, atI_nat (j := 1) rfl, _, _, rfl, (hbad e hE).at_ s4⟩⟩
      | inr y =>
        rw [eS] at hE hcs
        obtain ⟨s', ov⟩ := y
        intro H4 F4 q4 hS4 hq4
        refine ⟨q4, _, rfl, SqT.of hq4, rfl, _, _, rfl, _, _, rfl, rfl, ?_⟩
        refine ⟨_, rfl, rfl, _, rfl, if_false_of rfl ⟨ov, _, _, _, F4, s', rfl, hS4, hcs, ?_⟩⟩
        cases ov with
        | true => rw [if_pos rfl]; exact hE
        | false => rw [if_neg Bool.false_ne_true]; exact hE
  · rintro σ H1 ⟨over, v4, v5, v6, F, s, rfl, hS, hF, hE⟩
    have el : (as'.map V.ref).length = lines.length := by rw [List.length_map, hlen]
    rw [el] at hE hS
    have ed : (lines.map (Vbktaa.splitAt 32)).drop lines.length = [] := List.drop_eq_nil_of_le (by rw [List.length_map]; exact Nat.le_refl _)
    rw [ed] at hE
    have s01 := hS.s0.1.trans hS.s0.2
    refine ⟨_, rfl, _, rfl, ?_⟩
    cases over with
    | true =>
      rw [if_pos rfl, if_pos (show ([] : List (List (List Nat))).isEmpty = true from rfl)] at hE
      exact if_false_of rfl (hgood s hE H1 F W _ hS)
    | false =>
      rw [if_neg Bool.false_ne_true] at hE
      refine if_true_of rfl ⟨_, rfl, a, _, rfl, .inl (SqL.of (s01 _ _ ha1)), _, _, rfl, rfl, _, _, rfl, ?_⟩
      rw [el]
      exact (hbad _ hE).at_ s01
end
end Kn
namespace Kn
open PySem PySem.Spec PyProof.Rows L2
open Vbktaa (Form Size Item Items Part Parts idxOf NAMES rowIn word isName)
theorem run_fit : ∀ (lines : List (List (List Nat))) (k : Nat) (s s' : RD), 1 ≤ k → Fit k s → runR k s lines = .inr s' → s'.rows.length ≤ 20
  | [], k, s, s', _, _, h => by cases h
  | ws :: rest, k, s, s', hk, hF, h => by
    rw [runR_cons] at h
    have hcs := step_cases (ws := ws) hk hF
    cases e : stepR k s ws with
    | inl er => rw [e] at h; cases h
    | inr x =>
      obtain ⟨t, b⟩ := x
      rw [e] at h hcs
      cases b with
      | true =>
        dsimp only at h
        by_cases hr : rest.isEmpty = true
        · rw [if_pos hr] at h
          cases h
          exact hcs.rows
        · rw [if_neg hr] at h; cases h
      | false => exact run_fit rest (k + 1) t s' (by omega) hcs h
/-- a pattern that was read -/
structure PatAt (K : PySem.W.Frag) (H : Hp) (p : Addr) (q : Vbktaa.Pattern) (rows : List (List Nat × Items)) : Prop where
  ex : ∃ (dx la ca ra pa : Addr) (as rs : List Addr) (us : List V), H p = some (.ins (He.ga K "Pattern") dx (patF la ca ra pa)) ∧ H la = some (.lst (as.map V.ref)) ∧ Paired (LetAt H) as q.sizes ∧ FormAt H ca q.cast ∧
    H ra = some (.lst (rs.map V.ref)) ∧ Paired (RowAt H) rs rows ∧ H pa = some (.lst us) ∧ PartsAt H q.parts us
theorem PatAt.mono {K : PySem.W.Frag} {H H' : Hp} {p : Addr} {q : Vbktaa.Pattern} {rows : List (List Nat × Items)} (s : Same H H') (h : PatAt K H p q rows) : PatAt K H' p q rows := by
  obtain ⟨dx, la, ca, ra, pa, as, rs, us, h1, h2, h3, h4, h5, h6, h7, h8⟩ := h.ex
  exact ⟨dx, la, ca, ra, pa, as, rs, us, s _ _ h1, s _ _ h2, paired_mono (fun _ _ r => s _ _ r) h3, h4.mono s, s _ _ h5, paired_mono (fun _ _ r => r.mono s) h6, s _ _ h7, h8.mono s⟩
theorem BodyS.done {K : PySem.W.Frag} {F0 F H : Hp} {p W : Addr} {ss : List Size} {c : Form} {rows : List (List Nat × Items)} {o : Open} {m : Nat} (h : BodyS K F0 F H p W ss c rows o m) : PatAt K H p { sizes := ss, cast := c, parts := o.base } rows := by
  obtain ⟨dx, la, ca, ra, pa, t0, e0, as, rs, obs, us0, h1, h2, h3, h4, h5, h6, h7, h8, h9, h10, _⟩ := h.ex
  exact ⟨dx, la, ca, ra, pa, as, rs, us0, h.s1 _ _ h1, h.s1 _ _ h2, paired_mono (fun _ _ r => h.s1 _ _ r) h3, h4.mono h.s1, h5, paired_mono (fun _ _ r => r.mono h.s1) h6, h9, h10.mono h.s1⟩
theorem paired_init {α β : Type} {F : α → β → Prop} : ∀ {l : List α} {m : List β}, Paired F l m → Paired F l.dropLast m.dropLast
  | _, _, .nil => .nil
  | _, _, .cons r .nil => .nil
  | _, _, .cons r (.cons r2 t) => .cons r (paired_init (.cons r2 t))
section
variable {X : Cx} {CX : CXT} {k j : Nat} {C f : Addr} {x : Str} {ps : List Str} {sp : Sp} {E : XK} {e : Expr} {es : List Expr} {t : TA} {p pos : Pos}
/-- C() -/
theorem pe_mk0 (M : Mk X.K C f) (F : CalM X.prog X.w X.K X.mg X.base CX k f ps sp) (hr : Room j X.A) (hm : X.mg x = some (.ref C)) (hx : Passes CX X E) (hk : k + 1 ≤ j := by decide) (hg : Gl X x := by rfl) (hdb : (x == ("__debug__" : Str)) = false := by decide) : PE X (.Call (.Name x p) [] [] pos) (tMake C sp [] E tNil) := by
  obtain ⟨fd, F, hb⟩ := F
  exact pe_make0 M F (hr.mono hk) hg hm hb .nil hx hdb
/-- C(e, ..) -/
theorem pe_mk (M : Mk X.K C f) (F : CalM X.prog X.w X.K X.mg X.base CX k f ps sp) (hr : Room j X.A) (hm : X.mg x = some (.ref C)) (hx : Passes CX X E) (ha : PA X (e :: es) t) (hk : k + 1 ≤ j := by decide) (hg : Gl X x := by rfl) (hdb : (x == ("__debug__" : Str)) = false := by decide)
    (he : starEach (e :: es) X.env = (false, eval e X.env) :: starEach es X.env := by rfl) (hpl : (backTo pos (starEach es X.env)).any (·.1) = false := by rfl) : PE X (.Call (.Name x p) (e :: es) [] pos) (tMake C sp [] E t) := by
  obtain ⟨fd, F, hb⟩ := F
  exact pe_make M F (hr.mono hk) hg hm hb .nil hx ha hdb he hpl
end
section
variable {P : Program} {w : World} {K : PySem.W.Frag} {mg : Str → Option Value} {base : Heap}
def spReadP (K : PySem.W.Frag) : Sp := fun vs H Q E => ∃ (a : Addr) (t : List Nat), vs = [.ref a] ∧ SqL K H a (VT t) ∧ t.length ≤ 2400 ∧
  (∀ e, Vbktaa.readText t = .inl e → Errs K H E (e.1 : Int) (e.2 : Int)) ∧
  ∀ q, Vbktaa.readText t = .inr q → ∀ rows, ReadG 3000 q rows → rows.length ≤ 20 → ∀ (H' : Hp) (p : Addr), Same H H' → H p = none → PatAt K H' p q rows → Q (.ref p) H'
theorem sc_read_pattern : FnScope ["text", "pieces", "pattern"] ["text"] (defScope s_read_pattern) := ⟨rfl, rfl, rfl, by decide +kernel, rfl, by decide +kernel, by decide +kernel⟩
theorem ok_read_pattern (T : Txt K mg) (R : RaiW P w K mg base) (D : Def K mg "read_pattern" s_read_pattern) (c_parted : Cal P w K mg base CX0 1 "parted" ["row", "by"] (spParted K)) (m_init : CalM P w K mg base CX0 1 (He.ma K (He.ga K "Pattern") "__init__") ["self"] (spPInit K))
    (c_read_lines : Cal P w K mg base (L2.CX P w) 19 "read_lines" ["pattern", "lines"] (spLines K)) :
    Cal P w K mg base (L2.CX P w) 20 "read_pattern" ["text"] (spReadP K) := by
  have sc := sc_read_pattern
  refine Cal.mk' D sc (fun _ _ _ _ _ _ us hl => match us, hl with | [_], _ => rfl) (fun vs H Q E h => ?_) (fun f cdv A outer s H vs Q E hr h => ?_)
  · obtain ⟨_, _, rfl, _⟩ := h; rfl
  obtain ⟨a, t, rfl, hS, htl, hbad, hgood⟩ := h
  refine ⟨_, (pss_cons (ps_set (i := 1) sc.nd rfl (Or.inl rfl) (pe_f c_parted hr pass0 (pa_cons (pv 0) (pa_cons (pe_gi T.i_LINE_END) pa_nil))))
  (pss_cons (ps_if (pt_cmpR (op_neT hr.units) (pe_ix ix_list (pv 1) (pe_un un_neg pe_int) (fun _ _ => rfl)) (pe_lst pa_nil) (nomark _)) (pss_one (ps_raise rfl (takes_of rfl rfl rfl rfl) (pmk_Wrong R hr (mono_cons (mono_len (mono_cons mono_var mono_nil)) (mono_cons mono_c mono_nil)) (pa_cons (pe_callB call_len_seq (by rfl) T.f_len (by decide +kernel) (pa_cons (pv 1) pa_nil)) (pa_cons pe_int pa_nil))))) pss_nil)
  (pss_cons (ps_set (i := 2) sc.nd rfl (Or.inl rfl) (pe_mk0 T.kPattern m_init hr T.gPattern pass0))
  (pss_cons (ps_expr (pe_f c_read_lines hr passR (pa_cons (pv 2) (pa_cons (pe_slice sl_list (pv 1) po_none (po_some (pe_un un_neg pe_int))) pa_nil))))
  (pss_one (ps_ret (pv 2))))))), ?_⟩
  obtain ⟨ini, u, eSp⟩ := splitAt_init 10 t
  refine ⟨_, rfl, a, t, 10, rfl, hS, by omega, fun H1 pc s1 hpc hT => ?_⟩
  rw [eSp] at hT
  obtain ⟨as, hc1, hc2⟩ := hT
  obtain ⟨hc1a, hc1b⟩ := off_some hc1
  have hlen := paired_len hc2
  have hlast : (ini ++ [u])[ini.length]? = some u := by rw [List.getElem?_append_right (Nat.le_refl _), Nat.sub_self]; rfl
  have hal : ini.length < as.length := by rw [hlen, List.length_append, List.length_singleton]; omega
  obtain ⟨u', eu, hu⟩ := paired_get hc2 (List.getElem?_eq_getElem hal)
  rw [hlast] at eu
  cases eu
  obtain ⟨hua, hub⟩ := off_some hu
  have hat : atI (as.map V.ref) (-1) = some (.ref as[ini.length]) := by
    have e := take_more (List.getElem?_eq_getElem hal)
    rw [List.take_of_length_le (by rw [hlen, List.length_append, List.length_singleton]; exact Nat.le_refl _)] at e
    have e2 : as.map V.ref = (as.take ini.length).map V.ref ++ [V.ref as[ini.length]] := by
      conv => lhs; rw [e]
      rw [List.map_append]; rfl
    rw [e2]
    exact atI_last _ _
  have eR : Vbktaa.readText t = if u ≠ [] then .inl (ini.length + 1, 1) else Vbktaa.readHead 1 [] (ini.map (Vbktaa.splitAt 32)) := by
    unfold Vbktaa.readText
    rw [eSp]
    dsimp only
    rw [List.getLast?_append, List.dropLast_concat, List.length_append, List.length_singleton]
    show (if some u ≠ some [] then _ else _) = _
    by_cases c : u = []
    · rw [if_neg (by rw [c]; simp), if_neg (by rw [c]; simp)]
    · rw [if_pos (by simpa using c), if_pos c]
  refine ⟨_, rfl, _, rfl, pc, _, _, _, rfl, rfl, SqL.of hc1b, hat, small' (by decide), fun e1 he1 => ?_⟩
  have s2 : Same H1 (upd H1 e1 (.lst [])) := same_new he1
  have s12 := s1.trans s2
  refine ⟨_, e1, u, [], rfl, rfl, SqL.of (s2 _ _ hub), SqL.of upd_same, _, rfl, ?_⟩
  by_cases c1 : u = []
  · refine if_false_of (by rw [decide_eq_true c1]; rfl) ?_
    rw [if_neg (by simpa using c1), head_run] at eR
    generalize hG : upd H1 e1 (.lst []) = G1 at s2 s12
    intro x dx hx hdx ndx
    refine ⟨x, dx, rfl, upd_same, fun H3 la ca ra pa keep nla nca nra npa nd k1 k2 k3 k4 k5 => ⟨rfl, ?_⟩⟩
    have s3 : Same G1 H3 := fun b o hb => by
      have nb : b ≠ x := ne_of_none hb hx
      refine keep b o nb ?_
      rw [upd_ne nb, upd_ne (ne_of_none hb hdx)]; exact hb
    have fr : ∀ {b : Addr}, upd (upd G1 dx (.own x)) x (.ins (He.ga K "Pattern") dx []) b = none → G1 b = none := fun {b} hb => by
      by_cases e : b = x
      · rw [e, upd_same] at hb; cases hb
      · rw [upd_ne e] at hb
        by_cases e2 : b = dx
        · rw [e2, upd_same] at hb; cases hb
        · rw [upd_ne e2] at hb; exact hb
    have s23 := s2.trans s3
    refine ⟨_, rfl, _, rfl, _, rfl, _, rfl, pc, _, rfl, SqL.of (s23 _ _ hc1b), fun d hd => ?_⟩
    have s4 : Same H3 (upd H3 d (.lst (cutV (as.map V.ref) none (some (-1))))) := same_new hd
    have hdl : cutV (as.map V.ref) none (some (-1)) = as.dropLast.map V.ref := by rw [cut_init, List.map_dropLast]
    rw [hdl] at s4 ⊢
    have hdd : upd H3 d (.lst (as.dropLast.map V.ref)) d = some (.lst (as.dropLast.map V.ref)) := upd_same
    generalize upd H3 d (.lst (as.dropLast.map V.ref)) = H4 at s4 hdd ⊢
    -- the frame: all but what is to grow
    have stay : ∀ b o, H4 b = some o → b ≠ x → b ≠ la → b ≠ ra → b ≠ pa → del (del (del (del H4 x) la) ra) pa b = some o := fun b o hb n1 n2 n3 n4 => by
      rw [del_ne n4, del_ne n3, del_ne n2, del_ne n1]; exact hb
    have old : ∀ b o, G1 b = some o → del (del (del (del H4 x) la) ra) pa b = some o := fun b o hb =>
      stay b o (s4 _ _ (s3 _ _ hb)) (ne_of_none hb hx) (ne_of_none hb (fr nla)) (ne_of_none hb (fr nra)) (ne_of_none hb (fr npa))
    have sF : Same (del (del (del (del H4 x) la) ra) pa) H4 := fun b o hb => by
      by_cases e1 : b = pa
      · rw [e1, del_same] at hb; cases hb
      · rw [del_ne e1] at hb
        by_cases e2 : b = ra
        · rw [e2, del_same] at hb; cases hb
        · rw [del_ne e2] at hb
          by_cases e3 : b = la
          · rw [e3, del_same] at hb; cases hb
          · rw [del_ne e3] at hb
            by_cases e4 : b = x
            · rw [e4, del_same] at hb; cases hb
            · rw [del_ne e4] at hb; exact hb
    have nonex : del (del (del (del H4 x) la) ra) pa x = none := by
      by_cases e1 : x = pa
      · rw [e1, del_same]
      · rw [del_ne e1]
        by_cases e2 : x = ra
        · rw [e2, del_same]
        · rw [del_ne e2]
          by_cases e3 : x = la
          · rw [e3, del_same]
          · rw [del_ne e3, del_same]
    have nonel : del (del (del (del H4 x) la) ra) pa la = none := by
      by_cases e1 : la = pa
      · rw [e1, del_same]
      · rw [del_ne e1]
        by_cases e2 : la = ra
        · rw [e2, del_same]
        · rw [del_ne e2, del_same]
    have noner : del (del (del (del H4 x) la) ra) pa ra = none := by
      by_cases e1 : ra = pa
      · rw [e1, del_same]
      · rw [del_ne e1, del_same]
    have sHF : Same H (del (del (del (del H4 x) la) ra) pa) := fun b o hb => old b o (s12 _ _ hb)
    have hd3 : ∀ {b : Addr} {o : HO}, H3 b = some o → d ≠ b := fun hb e => by rw [e, hb] at hd; cases hd
    have hTx : TxtsAt (del (del (del (del H4 x) la) ra) pa) d ini := by
      refine ⟨as.dropLast, stay _ _ hdd (hd3 k1) (hd3 k2) (hd3 k4) (hd3 k5), ?_⟩
      have z : TxtL H1 as.dropLast ini := by
        have := paired_init (hc2.mono (off_same (H := H)))
        rw [List.dropLast_concat] at this
        exact this
      exact z.mono fun b o hb => old b o (s2 _ _ hb)
    have hsp : ∀ w ∈ ini, w ∈ Vbktaa.splitAt 10 t := fun w hw => by rw [eSp]; exact List.mem_append_left _ hw
    refine ⟨_, x, d, dx, la, ca, ra, pa, ini, rfl, sF, nonex, nonel, noner, del_same, nd, s4 _ _ k1, s4 _ _ k2, s4 _ _ k3, s4 _ _ k4, s4 _ _ k5, hTx, fun w hw => ?_, ?_, fun w hw => ?_, fun e he => ?_, fun s he H5 F' W m hRS => ?_⟩
    · exact Nat.le_trans (splitAt_mem_len (hsp w hw)) (by omega)
    · have := splitAt_len 10 t
      rw [eSp, List.length_append, List.length_singleton] at this
      omega
    · exact splitAt_free t w (hsp w hw)
    · have he' : runR 1 ⟨[], none, [], ⟨[], .nil⟩⟩ (ini.map (Vbktaa.splitAt 32)) = .inl e := he
      rw [he'] at eR
      exact (hbad e eR).mono sHF
    · have he' : runR 1 ⟨[], none, [], ⟨[], .nil⟩⟩ (ini.map (Vbktaa.splitAt 32)) = .inr s := he
      rw [he'] at eR
      obtain ⟨c, r1, r2, r3, r4⟩ := run_ok _ 1 0 _ s (by decide) (fun z hz => absurd hz (List.not_mem_nil)) (Fit.start []) (fun _ => ⟨rfl, rfl⟩) (fun c hc => nomatch hc) he'
      have hrow := run_fit _ 1 _ s (by decide) (Fit.start []) he'
      have hB := (RS_body r1).mp hRS
      refine ⟨_, rfl, ?_⟩
      have eq : headR (.inr s) = .inr { sizes := s.ss, cast := c, parts := s.o.base } := by
        show Sum.inr _ = Sum.inr _
        rw [r1]; rfl
      rw [eq] at eR
      have hlini : ini.length ≤ 2400 := by
        have := splitAt_len 10 t
        rw [eSp, List.length_append, List.length_singleton] at this
        omega
      refine hgood _ eR s.rows ⟨r3, r4.cast, r4.rowg, r4.base, ?_, ?_⟩ hrow H5 x (sHF.trans (hB.s0.trans hB.s1)) (s12.free hx) hB.done
      · have := r4.all
        rw [r2] at this
        rw [← this]
        show _ = _ ++ []
        rw [List.append_nil]
      · have := r4.few
        simp at this
        show nPs s.o.base ≤ 3000
        omega
  · refine if_true_of (by rw [decide_eq_false c1]; rfl) ⟨_, rfl, pc, _, rfl, .inl (SqL.of (s2 _ _ hc1b)), _, _, rfl, ?_⟩
    rw [if_pos c1] at eR
    have el : (as.map V.ref).length = ini.length + 1 := by rw [List.length_map, hlen, List.length_append, List.length_singleton]
    rw [el]
    exact (hbad _ eR).at_ s12
end
end Kn
namespace Kn
open PySem PySem.Spec PyProof.Rows L2
open Vbktaa (Form Size Item Items Part Parts)
theorem PatAt.letters {K : PySem.W.Frag} {H : Hp} {p : Addr} {q : Vbktaa.Pattern} {rows : List (List Nat × Items)} (h : PatAt K H p q rows) (g : SizesG q.sizes) (hl : q.sizes.length ≤ 2) : PatL K H p q.sizes := by
  obtain ⟨dx, la, ca, ra, pa, as, rs, us, h1, h2, h3, _⟩ := h.ex
  exact ⟨⟨dx, _, la, as, h1, rfl, rfl, h2, h3⟩, fun s hs => (g s hs).name, by omega⟩
/-- one value, one letter -/
def valOk (z : Size) (x : Int) : Bool := decide ((z.lo : Int) ≤ x) && ((x - (z.lo : Int)) % (z.step : Int) == 0 && z.hi.all fun (h : Nat) => decide (x ≤ (Int.ofNat h)))
def sizeOk (ss : List Size) (v : List Int) : Bool := v.length == ss.length && (ss.zip v).all fun x => valOk x.1 x.2
theorem sizeOk_is (q : Vbktaa.Pattern) (v : List Int) : Vbktaa.isSize q v = sizeOk q.sizes v := by
  unfold Vbktaa.isSize sizeOk
  congr 1
  have e : (fun x : Size × Int => decide ((x.1.lo : Int) ≤ x.2) && ((x.2 - (x.1.lo : Int)) % (x.1.step : Int) == 0 && x.1.hi.all fun (h : Nat) => decide (x.2 ≤ Int.ofNat h))) = fun x => valOk x.1 x.2 := rfl
  rw [← e]
  congr 1
  funext x
  cases x.1.hi with
  | none => rfl
  | some h => rfl
section
variable {P : Program} {w : World} {K : PySem.W.Frag} {mg : Str → Option Value} {base : Heap}
/-! ### is_size -/
def spIsSize (K : PySem.W.Frag) : Sp := fun vs H Q _ => ∃ (p b : Addr) (ss : List Size) (v : List Int), vs = [.ref p, .ref b] ∧ PatL K H p ss ∧ (∀ z ∈ ss, 1 ≤ z.step) ∧ SqL K H b (v.map V.int) ∧ ∀ H', Same H H' → Q (.bl (sizeOk ss v)) H'
theorem sc_is_size : FnScope ["pattern", "size", "value", "letter", "least", "step", "greatest"] ["pattern", "size"] (defScope s_is_size) := ⟨rfl, rfl, rfl, by decide +kernel, rfl, by decide +kernel, by decide +kernel⟩
theorem ok_is_size (T : Txt K mg) (D : Def K mg "is_size" s_is_size) : Cal P w K mg base CX0 1 "is_size" ["pattern", "size"] (spIsSize K) := by
  have sc := sc_is_size
  refine Cal.mk' D sc (fun _ _ _ _ _ _ us hl => match us, hl with | [_, _], _ => rfl) (fun vs H Q E h => ?_) (fun f cdv A outer s H vs Q E hr h => ?_)
  · obtain ⟨_, _, _, _, rfl, _⟩ := h; rfl
  obtain ⟨p, b, ss, v, rfl, hP, hst, hV, k⟩ := h
  refine ⟨_, PSs.nox (pss_cons (ps_if (pt_cmpR op_ne (pe_callB call_len_seq (by rfl) T.f_len (by decide +kernel) (pa_cons (pv 1) pa_nil)) (pe_callB call_len_seq (by rfl) T.f_len (by decide +kernel) (pa_cons (pe_fld (pv 0) rfl) pa_nil)) (nomark _)) (pss_one (ps_ret pe_bl)) pss_nil)
  (pss_cons (ps_for PassesOwn.never rfl (pi_zip (by rfl) T.f_zip (pa_cons (pv 1) (pa_cons (pe_fld (pv 0) rfl) pa_nil))) (pg_tup rfl (pgs_cons (pg_name (i := 2) sc.nd rfl (Or.inl rfl)) (pgs_cons (pg_tup rfl (pgs_cons (pg_name (i := 3) sc.nd rfl (Or.inl rfl)) (pgs_cons (pg_name (i := 4) sc.nd rfl (Or.inl rfl)) (pgs_cons (pg_name (i := 5) sc.nd rfl (Or.inl rfl)) (pgs_cons (pg_name (i := 6) sc.nd rfl (Or.inl rfl)) pgs_nil))))) pgs_nil))) (pss_one (ps_if (PW.pt (pw_or (pt_cmpR op_lt (pv 2) (pv 4) (nomark _)) (pw_or (pt_cmpR op_ne (pe_op op_modN (pe_op op_sub (pv 2) (pv 4)) (pv 5)) pe_int (nomark _)) (pw_or1 (PW.pt (pw_and (pt_cmpR op_ge (pv 6) pe_int (nomark _)) (pw_and1 (pt_cmpR op_gt (pv 2) (pv 6) (nomark _))))))))) (pss_one (ps_ret pe_bl)) pss_nil)))
  (pss_one (ps_ret pe_bl)))), ?_⟩
  obtain ⟨dx, fs, la, as, h1, h2, h3, h4, h5⟩ := hP.ex
  have hlen : (as.map V.ref).length = ss.length := by rw [List.length_map]; exact paired_len h5
  refine ⟨_, rfl, b, _, rfl, .inl hV, _, rfl, p, _, dx, fs, _, rfl, h1, T.cPattern, T.nPattern_letters, h2, la, _, rfl, .inl (SqL.of h4), ?_⟩
  rw [hlen, List.length_map]
  refine ⟨rfl, _, rfl, ?_⟩
  by_cases c1 : v.length = ss.length
  · refine if_false_of (by rw [c1]; simp) ?_
    have eS : sizeOk ss v = (ss.zip v).all fun x => valOk x.1 x.2 := by
      unfold sizeOk
      rw [c1, beq_self_eq_true, Bool.true_and]
    rw [eS] at k
    refine ⟨_, rfl, _, rfl, p, _, dx, fs, _, rfl, h1, T.cPattern, T.nPattern_letters, h2, ?_⟩
    refine ⟨b, la, _, _, rfl, hV, SqL.of h4, for_it (walk_zip (n := ss.length) (by rw [hlen, List.length_map, c1]; omega))
      (fun i σ H' => ∃ (v2 v3 v4 v5 v6 : Option V), σ = [some (.ref p), some (.ref b), v2, v3, v4, v5, v6] ∧ Same H H' ∧ ((ss.zip v).take i).all (fun x => valOk x.1 x.2) = true)
      ⟨none, none, none, none, none, rfl, Same.refl H, rfl⟩ (fun i σ H' _ ⟨_, _, _, _, _, _, q, _⟩ => ⟨q.seq hV, SqL.of (q _ _ h4)⟩) ?_ ?_⟩
    · rintro i x σ H1 H2 hi ⟨v2, v3, v4, v5, v6, rfl, s1, hall⟩ ⟨t, x1, x2, rfl, ht, rfl, hx1, hx2⟩
      obtain ⟨n, hn, rfl⟩ := map_get hx1
      obtain ⟨a, ha, rfl⟩ := map_get hx2
      obtain ⟨z, hz, hL⟩ := paired_get h5 ha
      have s2 : Same H (upd H1 t (.tup [.int n, .ref a])) := same_put s1 (s1.free ht)
      have hzip : (ss.zip v)[i]? = some (z, n) := by rw [List.getElem?_zip_eq_some]; exact ⟨hz, hn⟩
      have hstep := hst z (List.mem_of_getElem? hz)
      refine ⟨t, _, rfl, SqT.of upd_same, rfl, _, _, rfl, _, _, rfl, ⟨a, _, rfl, SqT.of (s2 _ _ hL), rfl, _, _, rfl, _, _, rfl, _, _, rfl, _, _, rfl, rfl, ?_⟩⟩
      refine ⟨rfl, ?_⟩
      have bad : valOk z n = false → ((ss.zip v).all fun x => valOk x.1 x.2) = false := fun e => List.all_eq_false.mpr ⟨(z, n), List.mem_of_getElem? hzip, by simp [e]⟩
      have good : valOk z n = true → ((ss.zip v).take (i + 1)).all (fun x => valOk x.1 x.2) = true := fun e => by
        rw [take_more hzip, List.all_append, hall]
        simp [e]
      have eV : valOk z n = (decide ((z.lo : Int) ≤ n) && ((n - (z.lo : Int)) % (z.step : Int) == 0 && z.hi.all fun (h : Nat) => decide (n ≤ (Int.ofNat h)))) := rfl
      refine ⟨_, rfl, _, rfl, _, _, rfl, rfl, _, rfl, ?_⟩
      by_cases d1 : n < (z.lo : Int)
      · refine if_true_of (decide_eq_true d1) (if_true_of rfl ?_)
        rw [bad (by rw [eV, decide_eq_false (by omega), Bool.false_and])] at k
        exact k _ s2
      · refine if_false_of (decide_eq_false d1) ?_
        rw [decide_eq_true (by omega : (z.lo : Int) ≤ n), Bool.true_and] at eV
        refine ⟨_, rfl, _, rfl, _, _, rfl, rfl, _, rfl, _, _, rfl, rfl, by omega, rfl, _, rfl, ?_⟩
        have efm : (n - (z.lo : Int)).fmod (z.step : Int) = (n - (z.lo : Int)) % (z.step : Int) := Int.fmod_eq_emod_of_nonneg _ (by omega)
        by_cases d2 : (n - (z.lo : Int)) % (z.step : Int) = 0
        · refine if_false_of (by show (!decide (V.int ((n - (z.lo : Int)).fmod (z.step : Int)) = V.int 0)) = false; rw [efm, d2]; rfl) ?_
          rw [d2, show ((0 : Int) == 0) = true from rfl, Bool.true_and] at eV
          refine ⟨_, rfl, _, _, rfl, rfl, _, rfl, ?_⟩
          cases eh : z.hi with
          | none =>
            rw [eh, Option.all_none] at eV
            have e : hiI z = -1 := by unfold hiI; rw [eh]
            rw [e]
            refine if_false_of (by decide) (if_false_of rfl ?_)
            exact ⟨_, _, _, _, _, rfl, s2, good eV⟩
          | some g =>
            rw [eh, Option.all_some] at eV
            have e : hiI z = (g : Int) := by unfold hiI; rw [eh]
            rw [e]
            refine if_true_of (decide_eq_true (by omega)) ⟨_, rfl, _, rfl, _, _, rfl, rfl, _, rfl, ?_⟩
            by_cases d3 : (g : Int) < n
            · refine if_true_of (decide_eq_true d3) ?_
              rw [bad (by rw [eV]; exact decide_eq_false (show ¬ n ≤ (g : Int) by omega))] at k
              exact k _ s2
            · refine if_false_of (decide_eq_false d3) ?_
              exact ⟨_, _, _, _, _, rfl, s2, good (by rw [eV]; exact decide_eq_true (show n ≤ (g : Int) by omega))⟩
        · refine if_true_of (by show (!decide (V.int ((n - (z.lo : Int)).fmod (z.step : Int)) = V.int 0)) = true; rw [efm, decide_eq_false (fun e => d2 (V.int.inj e))]; rfl) (if_true_of rfl ?_)
          rw [beq_eq_false_iff_ne.mpr d2, Bool.false_and] at eV
          rw [bad eV] at k
          exact k _ s2
    · rintro σ H1 ⟨v2, v3, v4, v5, v6, rfl, s1, hall⟩
      rw [List.take_of_length_le (by rw [List.length_zip]; omega)] at hall
      rw [hall] at k
      exact k H1 s1
  · refine if_true_of (by rw [decide_eq_false (fun e => c1 (by have := V.int.inj e; omega))]; rfl) ?_
    have eS : sizeOk ss v = false := by
      unfold sizeOk
      rw [beq_eq_false_iff_ne.mpr c1, Bool.false_and]
    rw [eS] at k
    exact k H (Same.refl H)
end
end Kn
namespace Kn
open PySem PySem.Spec PyProof.Rows L2
open Vbktaa (Form Size Item Items Part Parts made uses)
theorem foldl_add (l : List Nat) (a : Nat) : l.foldl (fun a b => a + b) a = a + l.sum := by
  induction l generalizing a with
  | nil => rfl
  | cons x r ih =>
    rw [List.foldl_cons, ih, List.sum_cons]; omega
theorem made_sum (l : List Nat) : made l = (l.map Vbktaa.makes).sum := by
  unfold made
  rw [foldl_add]; omega
theorem made_app (a b : List Nat) : made (a ++ b) = made a + made b := by
  rw [made_sum, made_sum, made_sum, List.map_append, List.sum_append]
theorem made_rep (n s : Nat) : made (List.replicate n s) = n * Vbktaa.makes s := by
  rw [made_sum, List.map_replicate]
  induction n with
  | zero => simp
  | succ n ih => rw [List.replicate_succ, List.sum_cons, ih, Nat.succ_mul]; omega
def VN (l : List Nat) : List V := VT l
def workF (sz : Addr) (steps : Nat) (row : Int) (left fresh : Nat) (st dn wd : Addr) : List (Str × V) :=
  [("size", .ref sz), ("steps", .int (steps : Int)), ("row", .int row), ("left", .int (left : Int)), ("fresh", .int (fresh : Int)), ("stitches", .ref st), ("done", .ref dn), ("widths", .ref wd)]
def DoneAt (F : Hp) (a : Addr) (x : Nat × List Nat) : Prop := ∃ s, F a = some (.tup [.int (x.1 : Int), .ref s]) ∧ F s = some (.lst (VT x.2))
theorem DoneAt.mono {F G : Hp} {a : Addr} {x : Nat × List Nat} (s : Same F G) (h : DoneAt F a x) : DoneAt G a x := by
  obtain ⟨b, h1, h2⟩ := h
  exact ⟨b, s _ _ h1, s _ _ h2⟩
/-- the work: what's to be knit with, and how it stands -/
structure WS (K : PySem.W.Frag) (F0 F H : Hp) (wk : Addr) (v : List Int) (r : Vbktaa.Run) (row : Int) (done : List (Nat × List Nat)) (ws : List Nat) : Prop where
  ex : ∃ (dx sz st dn wd : Addr) (ds : List Addr), H wk = some (.ins (He.ga K "Work") dx (workF sz r.left row r.rem (made r.out) st dn wd)) ∧ F wk = none ∧ F sz = some (.lst (v.map V.int)) ∧ F st = some (.lst (VT r.out.reverse)) ∧
    H dn = some (.lst (ds.map V.ref)) ∧ F dn = none ∧ Paired (DoneAt F) ds done ∧ H wd = some (.lst (VT ws)) ∧ F wd = none ∧ dn ≠ wd
  few : r.out.length + r.left ≤ 1500
  s0 : Same F0 F
  s1 : Same F H
section
variable {K : PySem.W.Frag} {F0 F H H' : Hp} {wk : Addr} {v : List Int} {r : Vbktaa.Run} {row : Int} {done : List (Nat × List Nat)} {ws : List Nat}
theorem WS.grow (h : WS K F0 F H wk v r row done ws) (s : Same H H') : WS K F0 (Grow F H H') H' wk v r row done ws := by
  obtain ⟨dx, sz, st, dn, wd, ds, h1, h2, h3, h4, h5, h6, h7, h8, h9, h10⟩ := h.ex
  have g := grow_same (H' := H') h.s1
  exact ⟨⟨dx, sz, st, dn, wd, ds, s _ _ h1, grow_none h1 h2, g _ _ h3, g _ _ h4, s _ _ h5, grow_none h5 h6, paired_mono (fun _ _ z => z.mono g) h7, s _ _ h8, grow_none h8 h9, h10⟩, h.few, h.s0.trans g, grow_in h.s1 s⟩
/-- fields are set -/
theorem WS.set (h : WS K F0 F H wk v r row done ws) {dx sz st dn wd st' : Addr} {r' : Vbktaa.Run} {row' : Int} (hw : H wk = some (.ins (He.ga K "Work") dx (workF sz r.left row r.rem (made r.out) st dn wd))) (hst : F st' = some (.lst (VT r'.out.reverse))) (hf : r'.out.length + r'.left ≤ 1500) :
    WS K F0 F (upd H wk (.ins (He.ga K "Work") dx (workF sz r'.left row' r'.rem (made r'.out) st' dn wd))) wk v r' row' done ws := by
  obtain ⟨dx', sz', st0, dn', wd', ds, h1, h2, h3, h4, h5, h6, h7, h8, h9, h10⟩ := h.ex
  rw [h1] at hw
  have e := HO.ins.inj (Option.some.inj hw)
  obtain ⟨_, e1, e2⟩ := e
  have e3 : sz' = sz ∧ dn' = dn ∧ wd' = wd := by
    unfold workF at e2
    simp only [List.cons.injEq, Prod.mk.injEq, V.ref.injEq, true_and, and_true] at e2
    exact ⟨e2.1, e2.2.2.1, e2.2.2.2⟩
  obtain ⟨e4, e5, e6⟩ := e3
  subst e1 e4 e5 e6
  have n1 : wk ≠ dn' := fun e => by rw [e, h5] at h1; cases h1
  have n2 : wk ≠ wd' := fun e => by rw [e, h8] at h1; cases h1
  exact ⟨⟨dx', sz', st', dn', wd', ds, upd_same, h2, h3, hst, by rw [upd_ne (Ne.symm n1)]; exact h5, h6, h7, by rw [upd_ne (Ne.symm n2)]; exact h8, h9, h10⟩, hf, h.s0, fun b o hb => by rw [upd_ne (ne_of_none hb h2)]; exact h.s1 _ _ hb⟩
end
/-- what is asked of a way out by Gone -/
def GoesW (K : PySem.W.Frag) (F0 : Hp) (E : XK) (wk : Addr) (v : List Int) (row : Int) (done : List (Nat × List Nat)) (y : Nat) : Prop :=
  ∀ (d : Addr) (F' H' : Hp) (r' : Vbktaa.Run) (ws' : List Nat), WS K F0 F' H' wk v r' row done ws' → H' d = some (.xd (goneF (.int (y : Int)))) → E (.ref (He.ga K "Gone")) (some d) H'
theorem GoesW.at_ {K : PySem.W.Frag} {F0 F H : Hp} {E : XK} {wk : Addr} {v : List Int} {r : Vbktaa.Run} {row : Int} {done : List (Nat × List Nat)} {ws : List Nat} {y : Nat} (h : GoesW K F0 E wk v row done y) (s : WS K F0 F H wk v r row done ws) :
    ∀ d, H d = none → E (.ref (He.ga K "Gone")) (some d) (upd H d (.xd (goneF (.int (y : Int))))) := fun d hd => h d _ _ r ws (s.grow (same_new hd)) upd_same
section
variable {P : Program} {w : World} {K : PySem.W.Frag} {mg : Str → Option Value} {base : Heap}
/-! ### begin -/
def spBeg (K : PySem.W.Frag) : Sp := fun vs H Q E => ∃ (F0 F : Hp) (wk : Addr) (v : List Int) (r : Vbktaa.Run) (row : Int) (done : List (Nat × List Nat)) (ws : List Nat), vs = [.ref wk] ∧ WS K F0 F H wk v r row done ws ∧ (r.left = 0 → GoesW K F0 E wk v row done 5) ∧
  (r.left ≠ 0 → ∀ H' F', WS K F0 F' H' wk v { r with left := r.left - 1 } row done ws → Q .non H')
theorem sc_begin : FnScope ["work"] ["work"] (defScope s_begin) := ⟨rfl, rfl, rfl, by decide +kernel, rfl, by decide +kernel, by decide +kernel⟩
theorem ok_begin (T : Txt K mg) (R : RaiG P w K mg base) (D : Def K mg "begin" s_begin) : Cal P w K mg base (L2.CX P w) 3 "begin" ["work"] (spBeg K) := by
  have sc := sc_begin
  refine Cal.mk' D sc (fun _ _ _ _ _ _ us hl => match us, hl with | [_], _ => rfl) (fun vs H Q E h => ?_) (fun f cdv A outer s H vs Q E hr h => ?_)
  · obtain ⟨_, _, _, _, _, _, _, _, rfl, _⟩ := h; rfl
  obtain ⟨F0, F, wk, v, r, row, done, ws, rfl, hS, hbad, hgood⟩ := h
  refine ⟨_, (pss_cons (ps_if (pt_cmpR op_eq (pe_fld (pv 0) rfl) pe_int (nomark _)) (pss_one (ps_raise rfl (takes_of rfl rfl rfl rfl) (pmk_Gone R hr (mono_cons mono_c mono_nil) (pa_cons pe_int pa_nil)))) pss_nil)
    (pss_one (ps_fld (pv 0) (pe_op op_sub (pe_fld (pv 0) rfl) pe_int) rfl))), ?_⟩
  obtain ⟨dx, sz, st, dn, wd, ds, h1, h2, h3, h4, h5, h6, h7, h8, h9, h10⟩ := hS.ex
  refine ⟨_, rfl, wk, _, dx, _, _, rfl, h1, T.cWork, T.nWork_steps, rfl, rfl, _, rfl, ?_⟩
  by_cases c1 : r.left = 0
  · exact if_true_of (decide_eq_true (by rw [c1]; rfl)) ⟨_, rfl, (hbad c1).at_ hS⟩
  · refine if_false_of (decide_eq_false (fun e => c1 (by have := V.int.inj e; omega))) ?_
    refine ⟨_, rfl, wk, _, dx, _, _, rfl, h1, T.cWork, T.nWork_steps, rfl, _, _, rfl, rfl, _, rfl, wk, _, dx, _, rfl, h1, T.cWork, T.nWork_steps, by show 8 < 1000; decide, ?_⟩
    have z := hS.set (r' := { r with left := r.left - 1 }) (row' := row) h1 h4 (by have := hS.few; show r.out.length + (r.left - 1) ≤ 1500; omega)
    have e : ((r.left - 1 : Nat) : Int) = (r.left : Int) - 1 := by omega
    have := hgood c1 _ _ z
    unfold workF at this
    rw [show (({ r with left := r.left - 1 } : Vbktaa.Run).left : Int) = (r.left : Int) - 1 from e] at this
    exact this
/-! ### times_of -/
def spTimesOf (K : PySem.W.Frag) : Sp := fun vs H Q E => ∃ (F0 F : Hp) (wk b : Addr) (f : Form) (v : List Int) (r : Vbktaa.Run) (row : Int) (done : List (Nat × List Nat)) (ws : List Nat), vs = [.ref wk, .ref b] ∧ WS K F0 F H wk v r row done ws ∧ FormAt H b f ∧ GoodF v.length f ∧
  (Vbktaa.value v f < 0 → GoesW K F0 E wk v row done 1) ∧ (0 ≤ Vbktaa.value v f → (r.left : Int) < Vbktaa.value v f → GoesW K F0 E wk v row done 5) ∧
  (0 ≤ Vbktaa.value v f → Vbktaa.value v f ≤ (r.left : Int) → ∀ H', Same H H' → Q (.int (Vbktaa.value v f)) H')
theorem sc_times_of : FnScope ["work", "form", "times"] ["work", "form"] (defScope s_times_of) := ⟨rfl, rfl, rfl, by decide +kernel, rfl, by decide +kernel, by decide +kernel⟩
theorem ok_times_of (T : Txt K mg) (R : RaiG P w K mg base) (D : Def K mg "times_of" s_times_of) (c_value_of : Cal P w K mg base CX0 1 "value_of" ["form", "size"] (spValue K)) : Cal P w K mg base (L2.CX P w) 3 "times_of" ["work", "form"] (spTimesOf K) := by
  have sc := sc_times_of
  refine Cal.mk' D sc (fun _ _ _ _ _ _ us hl => match us, hl with | [_, _], _ => rfl) (fun vs H Q E h => ?_) (fun f cdv A outer s H vs Q E hr h => ?_)
  · obtain ⟨_, _, _, _, _, _, _, _, _, _, rfl, _⟩ := h; rfl
  obtain ⟨F0, F, wk, b, fm, v, r, row, done, ws, rfl, hS, hFm, hG, h1e, h5e, hgood⟩ := h
  refine ⟨_, (pss_cons (ps_set (i := 2) sc.nd rfl (Or.inl rfl) (pe_f c_value_of hr pass0 (pa_cons (pv 1) (pa_cons (pe_fld (pv 0) rfl) pa_nil))))
  (pss_cons (ps_if (pt_cmpR op_lt (pv 2) pe_int (nomark _)) (pss_one (ps_raise rfl (takes_of rfl rfl rfl rfl) (pmk_Gone R hr (mono_cons mono_c mono_nil) (pa_cons pe_int pa_nil)))) pss_nil)
  (pss_cons (ps_if (pt_cmpR op_gt (pv 2) (pe_fld (pv 0) rfl) (nomark _)) (pss_one (ps_raise rfl (takes_of rfl rfl rfl rfl) (pmk_Gone R hr (mono_cons mono_c mono_nil) (pa_cons pe_int pa_nil)))) pss_nil)
  (pss_one (ps_ret (pv 2)))))), ?_⟩
  obtain ⟨dx, sz, st, dn, wd, ds, h1, h2, h3, h4, h5, h6, h7, h8, h9, h10⟩ := hS.ex
  refine ⟨_, rfl, _, rfl, wk, _, dx, _, _, rfl, h1, T.cWork, T.nWork_size, rfl, b, sz, fm, v, rfl, hFm, SqL.of (hS.s1 _ _ h3), hG.1, hG.2, fun H1 s1 => ?_⟩
  have S1 := hS.grow s1
  refine ⟨_, rfl, _, _, rfl, rfl, _, rfl, ?_⟩
  by_cases c1 : Vbktaa.value v fm < 0
  · exact if_true_of (decide_eq_true c1) ⟨_, rfl, (h1e c1).at_ S1⟩
  · refine if_false_of (decide_eq_false c1) ⟨_, rfl, _, rfl, wk, _, dx, _, _, rfl, s1 _ _ h1, T.cWork, T.nWork_steps, rfl, _, _, rfl, rfl, _, rfl, ?_⟩
    by_cases c2 : (r.left : Int) < Vbktaa.value v fm
    · exact if_true_of (decide_eq_true c2) ⟨_, rfl, (h5e (by omega) c2).at_ S1⟩
    · exact if_false_of (decide_eq_false c2) ⟨_, rfl, hgood (by omega) (by omega) _ s1⟩
end
end Kn
namespace Kn
open PySem PySem.Spec PyProof.Rows L2
open Vbktaa (Form Size Item Items Part Parts made uses)
section
variable {K : PySem.W.Frag} {F0 F H H' : Hp} {wk : Addr} {v : List Int} {r : Vbktaa.Run} {row : Int} {done : List (Nat × List Nat)} {ws : List Nat}
/-- the work goes on: its fields are others, its stitches are a new list -/
theorem WS.turn (h : WS K F0 F H wk v r row done ws) {dx sz st dn wd o3 : Addr} {r' : Vbktaa.Run} {row' : Int} (hw : H wk = some (.ins (He.ga K "Work") dx (workF sz r.left row r.rem (made r.out) st dn wd)))
    (keep : ∀ b o, b ≠ wk → H b = some o → H' b = some o) (hn : H o3 = none) (ho : H' o3 = some (.lst (VT r'.out.reverse))) (hw' : H' wk = some (.ins (He.ga K "Work") dx (workF sz r'.left row' r'.rem (made r'.out) o3 dn wd))) (hf : r'.out.length + r'.left ≤ 1500) :
    WS K F0 (upd F o3 (.lst (VT r'.out.reverse))) H' wk v r' row' done ws := by
  obtain ⟨dx', sz', st0, dn', wd', ds, h1, h2, h3, h4, h5, h6, h7, h8, h9, h10⟩ := h.ex
  rw [h1] at hw
  have e := HO.ins.inj (Option.some.inj hw)
  obtain ⟨_, e1, e2⟩ := e
  have e3 : sz' = sz ∧ dn' = dn ∧ wd' = wd := by
    unfold workF at e2
    simp only [List.cons.injEq, Prod.mk.injEq, V.ref.injEq, true_and, and_true] at e2
    exact ⟨e2.1, e2.2.2.1, e2.2.2.2⟩
  obtain ⟨e4, e5, e6⟩ := e3
  subst e1 e4 e5 e6
  have n1 : wk ≠ dn' := fun e => by rw [e, h5] at h1; cases h1
  have n2 : wk ≠ wd' := fun e => by rw [e, h8] at h1; cases h1
  have hFo : F o3 = none := h.s1.free hn
  have g : Same F (upd F o3 (.lst (VT r'.out.reverse))) := same_new hFo
  have no : ∀ {b : Addr} {o : HO}, H b = some o → b ≠ o3 := fun hb => ne_of_none hb hn
  refine ⟨⟨dx', sz', o3, dn', wd', ds, hw', by rw [upd_ne (no h1)]; exact h2, g _ _ h3, upd_same, keep _ _ (Ne.symm n1) h5, by rw [upd_ne (no h5)]; exact h6, paired_mono (fun _ _ z => z.mono g) h7, keep _ _ (Ne.symm n2) h8, by rw [upd_ne (no h8)]; exact h9, h10⟩, hf, h.s0.trans g, fun b o hb => ?_⟩
  by_cases e : b = o3
  · rw [e, upd_same] at hb
    rw [e, ← hb]; exact ho
  · rw [upd_ne e] at hb
    exact keep _ _ (ne_of_none hb h2) (h.s1 _ _ hb)
end
def usedL : List V := [.int (1), .int (1), .int (0), .int (2), .int (2), .int (2), .int (1), .int (1)]
def madeL : List V := [.int (1), .int (1), .int (1), .int (1), .int (1), .int (1), .int (2), .int (1)]
theorem used_at : ∀ s : Nat, s < 8 → atI usedL (s : Int) = some (.int (uses s : Int))
  | 0, _ => rfl
  | 1, _ => rfl
  | 2, _ => rfl
  | 3, _ => rfl
  | 4, _ => rfl
  | 5, _ => rfl
  | 6, _ => rfl
  | 7, _ => rfl
  | n + 8, h => by omega
theorem made_at : ∀ s : Nat, s < 8 → atI madeL (s : Int) = some (.int (Vbktaa.makes s : Int))
  | 0, _ => rfl
  | 1, _ => rfl
  | 2, _ => rfl
  | 3, _ => rfl
  | 4, _ => rfl
  | 5, _ => rfl
  | 6, _ => rfl
  | 7, _ => rfl
  | n + 8, h => by omega
theorem uses_le : ∀ s : Nat, s < 8 → uses s ≤ 2
  | 0, _ => by decide
  | 1, _ => by decide
  | 2, _ => by decide
  | 3, _ => by decide
  | 4, _ => by decide
  | 5, _ => by decide
  | 6, _ => by decide
  | 7, _ => by decide
  | n + 8, h => by omega
theorem makes_le : ∀ s : Nat, s < 8 → Vbktaa.makes s ≤ 2
  | 0, _ => by decide
  | 1, _ => by decide
  | 2, _ => by decide
  | 3, _ => by decide
  | 4, _ => by decide
  | 5, _ => by decide
  | 6, _ => by decide
  | 7, _ => by decide
  | n + 8, h => by omega
section
variable {P : Program} {w : World} {K : PySem.W.Frag} {mg : Str → Option Value} {base : Heap}
/-! ### knit_stitch -/
def stitchN (r : Vbktaa.Run) (s n : Nat) : Vbktaa.Run := { rem := r.rem - n * uses s, out := List.replicate n s ++ r.out, left := r.left - n }
def spKnitS (K : PySem.W.Frag) : Sp := fun vs H Q E => ∃ (F0 F : Hp) (wk b : Addr) (s : Nat) (f : Form) (v : List Int) (r : Vbktaa.Run) (row : Int) (done : List (Nat × List Nat)) (ws : List Nat), vs = [.ref wk, .int (s : Int), .ref b] ∧ s < 8 ∧ WS K F0 F H wk v r row done ws ∧ FormAt H b f ∧ GoodF v.length f ∧
  (Vbktaa.value v f < 0 → GoesW K F0 E wk v row done 1) ∧ (0 ≤ Vbktaa.value v f → (r.left : Int) < Vbktaa.value v f → GoesW K F0 E wk v row done 5) ∧
  (∀ n : Nat, Vbktaa.value v f = (n : Int) → n ≤ r.left → (r.rem < n * uses s → GoesW K F0 E wk v row done 3) ∧ (n * uses s ≤ r.rem → ∀ H' F', WS K F0 F' H' wk v (stitchN r s n) row done ws → Q .non H'))
theorem sc_knit_stitch : FnScope ["work", "stitch", "form", "times"] ["work", "stitch", "form"] (defScope s_knit_stitch) := ⟨rfl, rfl, rfl, by decide +kernel, rfl, by decide +kernel, by decide +kernel⟩
theorem rep_one (n s : Nat) : (List.replicate n [V.int (s : Int)]).flatten = VT (List.replicate n s) := by
  unfold VT
  rw [List.map_replicate]
  induction n with
  | zero => rfl
  | succ n ih => rw [List.replicate_succ, List.flatten_cons, ih, List.replicate_succ]; rfl
theorem ok_knit_stitch (T : Txt K mg) (R : RaiG P w K mg base) (D : Def K mg "knit_stitch" s_knit_stitch) (c_times_of : Cal P w K mg base (L2.CX P w) 3 "times_of" ["work", "form"] (spTimesOf K)) : Cal P w K mg base (L2.CX P w) 4 "knit_stitch" ["work", "stitch", "form"] (spKnitS K) := by
  have sc := sc_knit_stitch
  refine Cal.mk' D sc (fun _ _ _ _ _ _ us hl => match us, hl with | [_, _, _], _ => rfl) (fun vs H Q E h => ?_) (fun f cdv A outer s H vs Q E hr h => ?_)
  · obtain ⟨_, _, _, _, _, _, _, _, _, _, _, rfl, _⟩ := h; rfl
  obtain ⟨F0, F, wk, b, st, fm, v, r, row, done, ws, rfl, hst, hS, hFm, hG, h1e, h5e, hgood⟩ := h
  refine ⟨_, (pss_cons (ps_set (i := 3) sc.nd rfl (Or.inl rfl) (pe_f c_times_of hr passR (pa_cons (pv 0) (pa_cons (pv 2) pa_nil))))
  (pss_cons (ps_if (pt_cmpR op_gt (pe_op op_mul (pe_ix ix_tup (pe_gr T.g_USED) (pv 1) (fun _ _ => rfl)) (pv 3)) (pe_fld (pv 0) rfl) (nomark _)) (pss_one (ps_raise rfl (takes_of rfl rfl rfl rfl) (pmk_Gone R hr (mono_cons mono_c mono_nil) (pa_cons pe_int pa_nil)))) pss_nil)
  (pss_cons (ps_fld (pv 0) (pe_op op_sub (pe_fld (pv 0) rfl) (pv 3)) rfl)
  (pss_cons (ps_fld (pv 0) (pe_op op_sub (pe_fld (pv 0) rfl) (pe_op op_mul (pe_ix ix_tup (pe_gr T.g_USED) (pv 1) (fun _ _ => rfl)) (pv 3))) rfl)
  (pss_cons (ps_fld (pv 0) (pe_op op_add (pe_fld (pv 0) rfl) (pe_op op_mul (pe_ix ix_tup (pe_gr T.g_MADE) (pv 1) (fun _ _ => rfl)) (pv 3))) rfl)
  (pss_one (ps_fld (pv 0) (pe_op op_cat (pe_fld (pv 0) rfl) (pe_op op_rep (pe_lst (pa_cons (pv 1) pa_nil)) (pv 3))) rfl))))))), ?_⟩
  refine ⟨_, rfl, _, rfl, F0, F, wk, b, fm, v, r, row, done, ws, rfl, hS, hFm, hG, h1e, h5e, fun c0 c5 H1 s1 => ?_⟩
  obtain ⟨n, hn⟩ : ∃ n : Nat, Vbktaa.value v fm = (n : Int) := ⟨(Vbktaa.value v fm).toNat, by omega⟩
  have hnl : n ≤ r.left := by omega
  obtain ⟨h3e, hok⟩ := hgood n hn hnl
  have S1 := hS.grow s1
  obtain ⟨dx, sz, so, dn, wd, ds, h1, h2, h3, h4, h5, h6, h7, h8, h9, h10⟩ := S1.ex
  rw [hn]
  have tU : ∀ H, SqT K H (He.ga K "USED") usedL := T.t_USED
  have tM : ∀ H, SqT K H (He.ga K "MADE") madeL := T.t_MADE
  have u2 := uses_le st hst
  have m2 := makes_le st hst
  refine ⟨_, rfl, _, _, _, _, rfl, rfl, tU _, used_at st hst, _, rfl, _, _, rfl, rfl, .inl ⟨by omega, by omega⟩, _, rfl, wk, _, dx, _, _, rfl, h1, T.cWork, T.nWork_left, rfl, _, _, rfl, rfl, _, rfl, ?_⟩
  have eU : ((uses st : Int) * (n : Int)) = ((n * uses st : Nat) : Int) := by rw [Int.natCast_mul, Int.mul_comm]
  have eM : ((Vbktaa.makes st : Int) * (n : Int)) = ((n * Vbktaa.makes st : Nat) : Int) := by rw [Int.natCast_mul, Int.mul_comm]
  by_cases c3 : r.rem < n * uses st
  · exact if_true_of (decide_eq_true (by show (r.rem : Int) < (uses st : Int) * (n : Int); rw [eU]; omega)) ⟨_, rfl, (h3e c3).at_ S1⟩
  · refine if_false_of (decide_eq_false (by show ¬ (r.rem : Int) < (uses st : Int) * (n : Int); rw [eU]; omega)) ?_
    have c3' : n * uses st ≤ r.rem := by omega
    refine ⟨_, rfl, wk, _, dx, _, _, rfl, h1, T.cWork, T.nWork_steps, rfl, _, rfl, _, _, rfl, rfl, _, rfl, wk, _, dx, _, rfl, h1, T.cWork, T.nWork_steps, by show 8 < 1000; decide, ?_⟩
    refine ⟨_, rfl, wk, _, dx, _, _, rfl, upd_same, T.cWork, T.nWork_left, rfl, _, rfl, _, _, _, _, rfl, rfl, tU _, used_at st hst, _, rfl, _, _, rfl, rfl, .inl ⟨by omega, by omega⟩, _, _, rfl, rfl, _, rfl, wk, _, dx, _, rfl, upd_same, T.cWork, T.nWork_left, by show 8 < 1000; decide, ?_⟩
    refine ⟨_, rfl, wk, _, dx, _, _, rfl, upd_same, T.cWork, T.nWork_fresh, rfl, _, rfl, _, _, _, _, rfl, rfl, tM _, made_at st hst, _, rfl, _, _, rfl, rfl, .inl ⟨by omega, by omega⟩, _, _, rfl, rfl, _, rfl, wk, _, dx, _, rfl, upd_same, T.cWork, T.nWork_fresh, by show 8 < 1000; decide, ?_⟩
    have nso : so ≠ wk := fun e => by rw [e, h2] at h4; cases h4
    refine ⟨_, rfl, wk, _, dx, _, _, rfl, upd_same, T.cWork, T.nWork_stitches, rfl, ?_⟩
    have hrl : r.out.length + r.left ≤ 1500 := hS.few
    refine ⟨_, rfl, small' (by show 1 ≤ 16000000; decide), fun o1 ho1 => ⟨_, rfl, _, _, _, rfl, rfl, upd_same, by omega, by omega, by rw [Int.toNat_natCast]; exact small' (by simp; omega), fun o2 ho2 => ?_⟩⟩
    have eR : (List.replicate ((n : Int)).toNat [V.int (st : Int)]).flatten = VT (List.replicate n st) := by rw [Int.toNat_natCast, rep_one]
    rw [eR]
    have hso := S1.s1 _ _ h4
    refine ⟨so, o2, _, _, rfl, rfl, put_at ho2 (put_at ho1 (by rw [upd_ne nso, upd_ne nso, upd_ne nso]; exact hso)), upd_same, small' (by rw [VT_len, VT_len, List.length_reverse, List.length_replicate]; omega), fun o3 ho3 => ?_⟩
    have f1 : H1 o1 = none ∧ o1 ≠ wk := by
      have nw : o1 ≠ wk := fun e => by rw [e, upd_same] at ho1; cases ho1
      rw [upd_ne nw, upd_ne nw, upd_ne nw] at ho1
      exact ⟨ho1, nw⟩
    have f2 : H1 o2 = none ∧ o2 ≠ wk := by
      have n1 : o2 ≠ o1 := fun e => by rw [e, upd_same] at ho2; cases ho2
      rw [upd_ne n1] at ho2
      have nw : o2 ≠ wk := fun e => by rw [e, upd_same] at ho2; cases ho2
      rw [upd_ne nw, upd_ne nw, upd_ne nw] at ho2
      exact ⟨ho2, nw⟩
    have f3 : H1 o3 = none ∧ o3 ≠ wk := by
      have n2 : o3 ≠ o2 := fun e => by rw [e, upd_same] at ho3; cases ho3
      rw [upd_ne n2] at ho3
      have n1 : o3 ≠ o1 := fun e => by rw [e, upd_same] at ho3; cases ho3
      rw [upd_ne n1] at ho3
      have nw : o3 ≠ wk := fun e => by rw [e, upd_same] at ho3; cases ho3
      rw [upd_ne nw, upd_ne nw, upd_ne nw] at ho3
      exact ⟨ho3, nw⟩
    have eApp : VT r.out.reverse ++ VT (List.replicate n st) = VT (stitchN r st n).out.reverse := by
      rw [← VT_app]
      congr 1
      show _ = (List.replicate n st ++ r.out).reverse
      rw [List.reverse_append, List.reverse_replicate]
    have e1 : (r.left : Int) - (n : Int) = ((stitchN r st n).left : Int) := by
      show _ = ((r.left - n : Nat) : Int)
      omega
    have e2 : (r.rem : Int) - (uses st : Int) * (n : Int) = ((stitchN r st n).rem : Int) := by
      show _ = ((r.rem - n * uses st : Nat) : Int)
      rw [eU]; omega
    have e3 : (made r.out : Int) + (Vbktaa.makes st : Int) * (n : Int) = (made (stitchN r st n).out : Int) := by
      show _ = ((made (List.replicate n st ++ r.out) : Nat) : Int)
      rw [made_app, made_rep, eM]; omega
    refine ⟨_, rfl, wk, _, dx, _, rfl, put_at ho3 (put_at ho2 (put_at ho1 upd_same)), T.cWork, T.nWork_stitches, by show 8 < 1000; decide, ?_⟩
    refine hok c3' _ _ (WS.turn S1 (r' := stitchN r st n) (o3 := o3) (row' := row) h1 (fun b' o nb hb => ?_) f3.1 ?_ ?_ ?_)
    · rw [upd_ne nb, upd_ne (ne_of_none hb f3.1), upd_ne (ne_of_none hb f2.1), upd_ne (ne_of_none hb f1.1), upd_ne nb, upd_ne nb, upd_ne nb]
      exact hb
    · rw [upd_ne f3.2, upd_same, eApp]
    · rw [upd_same]
      show some (HO.ins _ dx [("size", .ref sz), ("steps", .int ((r.left : Int) - (n : Int))), ("row", .int row), ("left", .int ((r.rem : Int) - (uses st : Int) * (n : Int))), ("fresh", .int ((made r.out : Int) + (Vbktaa.makes st : Int) * (n : Int))), ("stitches", .ref o3), ("done", .ref dn), ("widths", .ref wd)]) = _
      rw [e1, e2, e3]; rfl
    · show (List.replicate n st ++ r.out).length + (r.left - n) ≤ 1500
      rw [List.length_append, List.length_replicate]; omega
end
end Kn
namespace Kn
open PySem PySem.Spec PyProof.Rows L2
open Vbktaa (Form Size Item Items Part Parts made uses runItem runItems runTimes runFill)
/-- fuel that is enough -/
def Enough (f : Nat) (r : Vbktaa.Run) (l : Items) : Prop := 1 ≤ f ∧ (isNil l = false → 3 * r.left + 1 ≤ f)
theorem items_left {v : List Int} {f : Nat} {l : Items} {r q : Vbktaa.Run} (h : Enough f r l) (e : runItems v f l r = .ok q) : q.left ≤ r.left ∧ (isNil l = false → q.left < r.left) := by
  cases hl : isNil l with
  | true =>
    cases l with
    | nil =>
      obtain ⟨g, rfl⟩ : ∃ g, f = g + 1 := ⟨f - 1, by have := h.1; omega⟩
      rw [runItems_nil] at e
      cases e
      exact ⟨Nat.le_refl _, fun z => nomatch z⟩
    | cons i l => cases hl
  | false =>
    have z := ((fuel_at v r.left).items l r rfl f f (h.2 hl) (h.2 hl)).2 q e
    exact ⟨z.1, fun _ => z.2 hl⟩
section
variable {P : Program} {w : World} {K : PySem.W.Frag} {mg : Str → Option Value} {base : Heap}
/-- what comes of items -/
def RunQ (K : PySem.W.Frag) (F0 : Hp) (wk : Addr) (v : List Int) (row : Int) (done : List (Nat × List Nat)) (ws : List Nat) (x : Except Nat Vbktaa.Run) (Q : VK) (E : XK) : Prop := match x with
  | .error y => GoesW K F0 E wk v row done y
  | .ok r => ∀ H' F', WS K F0 F' H' wk v r row done ws → Q .non H'
def spKnitI (K : PySem.W.Frag) (d : Nat) : Sp := fun vs H Q E => ∃ (F0 F : Hp) (wk l : Addr) (us : List V) (items : Items) (f : Nat) (v : List Int) (r : Vbktaa.Run) (row : Int) (done : List (Nat × List Nat)) (ws : List Nat), vs = [.ref wk, .ref l] ∧ WS K F0 F H wk v r row done ws ∧
  F0 l = some (.lst us) ∧ ItemsAt F0 items us ∧ DeepIs items d ∧ GoodIs v.length items ∧ Enough f r items ∧ RunQ K F0 wk v row done ws (runItems v f items r) Q E
def spKnitI0 (K : PySem.W.Frag) : Nat → Sp
  | 0 => fun _ _ _ _ => False
  | d + 1 => spKnitI K d
/-- what comes of a fill -/
def fillRes (v : List Int) (g : Nat) (l : Items) (n : Int) (r : Vbktaa.Run) : Except Nat Vbktaa.Run := if n < 0 then .error 1 else if (r.rem : Int) < n then .error 2 else runFill v g l n.toNat r
def spFill (K : PySem.W.Frag) (d : Nat) : Sp := fun vs H Q E => ∃ (F0 F : Hp) (wk l b : Addr) (us : List V) (items : Items) (fm : Form) (g : Nat) (v : List Int) (r : Vbktaa.Run) (row : Int) (done : List (Nat × List Nat)) (ws : List Nat), vs = [.ref wk, .ref l, .ref b] ∧ WS K F0 F H wk v r row done ws ∧
  F0 l = some (.lst us) ∧ ItemsAt F0 items us ∧ (∃ e, d = e + 1 ∧ DeepIs items e) ∧ GoodIs v.length items ∧ FormAt F0 b fm ∧ GoodF v.length fm ∧ 3 * r.left + 2 ≤ g ∧ RunQ K F0 wk v row done ws (fillRes v g items (Vbktaa.value v fm) r) Q E
theorem sc_knit_fill : FnScope ["work", "items", "form", "last", "before"] ["work", "items", "form"] (defScope s_knit_fill) := ⟨rfl, rfl, rfl, by decide +kernel, rfl, by decide +kernel, by decide +kernel⟩
theorem ok_knit_fill {k d : Nat} (hk : 2 ≤ k) (T : Txt K mg) (R : RaiG P w K mg base) (D : Def K mg "knit_fill" s_knit_fill) (c_value_of : Cal P w K mg base CX0 1 "value_of" ["form", "size"] (spValue K)) (c_knit_items : Cal P w K mg base (L2.CX P w) k "knit_items" ["work", "items"] (spKnitI0 K d)) :
    Cal P w K mg base (L2.CX P w) (k + 1) "knit_fill" ["work", "items", "form"] (spFill K d) := by
  have sc := sc_knit_fill
  refine Cal.mk' D sc (fun _ _ _ _ _ _ us hl => match us, hl with | [_, _, _], _ => rfl) (fun vs H Q E h => ?_) (fun f cdv A outer s H vs Q E hr h => ?_)
  · obtain ⟨_, _, _, _, _, _, _, _, _, _, _, _, _, _, rfl, _⟩ := h; rfl
  obtain ⟨F0, F, wk, l, b, us, items, fm, g, v, r, row, done, ws, rfl, hS, hl0, hIt, ⟨e, hd, hdp⟩, hGI, hFm, hG, hg, hQ⟩ := h
  subst hd
  refine ⟨_, (pss_cons (ps_set (i := 3) sc.nd rfl (Or.inl rfl) (pe_f c_value_of hr pass0 (pa_cons (pv 2) (pa_cons (pe_fld (pv 0) rfl) pa_nil)) (hk := Nat.le_trans (by decide) hk)))
  (pss_cons (ps_if (pt_cmpR op_lt (pv 3) pe_int (nomark _)) (pss_one (ps_raise rfl (takes_of rfl rfl rfl rfl) (pmk_Gone R hr (mono_cons mono_c mono_nil) (pa_cons pe_int pa_nil) (hk := hk)))) pss_nil)
  (pss_cons (ps_if (pt_cmpR op_lt (pe_fld (pv 0) rfl) (pv 3) (nomark _)) (pss_one (ps_raise rfl (takes_of rfl rfl rfl rfl) (pmk_Gone R hr (mono_cons mono_c mono_nil) (pa_cons pe_int pa_nil) (hk := hk)))) pss_nil)
  (pss_one (ps_while (passes_of rfl) (pt_cmpR op_gt (pe_fld (pv 0) rfl) (pv 3) (nomark _)) (pss_cons (ps_set (i := 4) sc.nd rfl (Or.inl rfl) (pe_fld (pv 0) rfl))
    (pss_cons (ps_expr (pe_f c_knit_items hr passR (pa_cons (pv 0) (pa_cons (pv 1) pa_nil)) (hk := Nat.le_refl _)))
    (pss_one (ps_if (PW.pt (pw_or (pt_cmpR op_lt (pe_fld (pv 0) rfl) (pv 3) (nomark _)) (pw_or1 (pt_cmpR op_eq (pe_fld (pv 0) rfl) (pv 4) (nomark _))))) (pss_one (ps_raise rfl (takes_of rfl rfl rfl rfl) (pmk_Gone R hr (mono_cons mono_c mono_nil) (pa_cons pe_int pa_nil) (hk := hk)))) pss_nil))))))))), ?_⟩
  obtain ⟨dx, sz, st, dn, wd, ds, h1, h2, h3, h4, h5, h6, h7, h8, h9, h10⟩ := hS.ex
  have s0 : Same F0 H := hS.s0.trans hS.s1
  refine ⟨_, rfl, _, rfl, wk, _, dx, _, _, rfl, h1, T.cWork, T.nWork_size, rfl, b, sz, fm, v, rfl, s0 _ _ hFm, SqL.of (hS.s1 _ _ h3), hG.1, hG.2, fun H1 s1 => ?_⟩
  have S1 := hS.grow s1
  unfold fillRes at hQ
  refine ⟨_, rfl, _, _, rfl, rfl, _, rfl, ?_⟩
  by_cases c1 : Vbktaa.value v fm < 0
  · rw [if_pos c1] at hQ
    exact if_true_of (decide_eq_true c1) ⟨_, rfl, GoesW.at_ hQ S1⟩
  · rw [if_neg c1] at hQ
    refine if_false_of (decide_eq_false c1) ⟨_, rfl, wk, _, dx, _, _, rfl, s1 _ _ h1, T.cWork, T.nWork_left, rfl, _, rfl, _, _, rfl, rfl, _, rfl, ?_⟩
    by_cases c2 : (r.rem : Int) < Vbktaa.value v fm
    · rw [if_pos c2] at hQ
      exact if_true_of (decide_eq_true c2) ⟨_, rfl, GoesW.at_ hQ S1⟩
    · rw [if_neg c2] at hQ
      refine if_false_of (decide_eq_false c2) ?_
      obtain ⟨n, hn⟩ : ∃ n : Nat, Vbktaa.value v fm = (n : Int) := ⟨(Vbktaa.value v fm).toNat, by omega⟩
      rw [hn] at c2
      rw [hn, Int.toNat_natCast] at hQ
      rw [hn]
      refine ⟨fun m σ H' => ∃ (F' : Hp) (r' : Vbktaa.Run) (g' : Nat) (v4 : Option V), m = g' ∧ σ = [some (.ref wk), some (.ref l), some (.ref b), some (.int (n : Int)), v4] ∧ WS K F0 F' H' wk v r' row done ws ∧ n ≤ r'.rem ∧ 3 * r'.left + 2 ≤ g' ∧ runFill v g items n r = runFill v g' items n r',
        ⟨_, _, r, g, none, rfl, rfl, S1, by omega, hg, rfl⟩, ?_⟩
      rintro m σ H2 ⟨F', r', g', v4, rfl, rfl, S2, hnr, hg', hE⟩
      obtain ⟨dx', sz', st', dn', wd', ds', j1, _⟩ := S2.ex
      obtain ⟨g2, rfl⟩ : ∃ g2, m = g2 + 1 := ⟨m - 1, by omega⟩
      rw [runFill_succ] at hE
      refine ⟨_, rfl, wk, _, dx', _, _, rfl, j1, T.cWork, T.nWork_left, rfl, _, rfl, _, _, rfl, rfl, _, rfl, ?_⟩
      by_cases c3 : r'.rem = n
      · rw [if_pos c3] at hE
        rw [hE] at hQ
        exact if_false_of (decide_eq_false (by omega)) (hQ _ _ S2)
      · rw [if_neg c3] at hE
        refine if_true_of (decide_eq_true (by omega)) ⟨_, fun σ' H' z => z, ?_⟩
        refine ⟨_, rfl, wk, _, dx', _, _, rfl, j1, T.cWork, T.nWork_left, rfl, ?_⟩
        have hEn : Enough g2 r' items := ⟨by omega, fun _ => by omega⟩
        refine ⟨_, rfl, _, rfl, F0, F', wk, l, us, items, g2, v, r', row, done, ws, rfl, S2, hl0, hIt, hdp, hGI, hEn, ?_⟩
        cases ex : runItems v g2 items r' with
        | error y =>
          rw [ex] at hE
          rw [hE] at hQ
          exact hQ
        | ok q =>
          rw [ex] at hE
          intro H3 F3 S3
          obtain ⟨dx3, sz3, st3, dn3, wd3, ds3, i1, _⟩ := S3.ex
          have hE' : runFill v g items n r = if q.rem < n ∨ q.rem = r'.rem then .error 2 else runFill v g2 items n q := hE
          refine ⟨_, rfl, wk, _, dx3, _, _, rfl, i1, T.cWork, T.nWork_left, rfl, _, rfl, _, _, rfl, rfl, _, rfl, ?_⟩
          by_cases c4 : q.rem < n
          · rw [if_pos (.inl c4)] at hE'
            rw [hE'] at hQ
            exact if_true_of (decide_eq_true (by omega)) (if_true_of rfl ⟨_, rfl, GoesW.at_ hQ S3⟩)
          · refine if_false_of (decide_eq_false (by omega)) ⟨_, rfl, wk, _, dx3, _, _, rfl, i1, T.cWork, T.nWork_left, rfl, _, rfl, rfl, _, rfl, ?_⟩
            by_cases c5 : q.rem = r'.rem
            · rw [if_pos (.inr c5)] at hE'
              rw [hE'] at hQ
              exact if_true_of (decide_eq_true (by rw [c5])) ⟨_, rfl, GoesW.at_ hQ S3⟩
            · rw [if_neg (fun z => z.elim c4 c5)] at hE'
              refine if_false_of (decide_eq_false (fun z => c5 (by have := V.int.inj z; omega))) ?_
              have hql := items_left hEn ex
              refine ⟨g2, by omega, F3, q, g2, _, rfl, rfl, S3, by omega, ?_, hE'⟩
              have : isNil items = false := by
                cases hh : isNil items with
                | false => rfl
                | true =>
                  cases items with
                  | nil =>
                    obtain ⟨g3, rfl⟩ : ∃ g3, g2 = g3 + 1 := ⟨g2 - 1, by omega⟩
                    rw [runItems_nil] at ex
                    cases ex
                    exact absurd rfl c5
                  | cons i l => cases hh
              have := hql.2 this
              omega
end
end Kn
namespace Kn
open PySem PySem.Spec PyProof.Rows L2
open Vbktaa (Form Size Item Items Part Parts made uses runItem runItems runTimes runFill)
/-- the items from a place on -/
def dropI : Items → Nat → Items
  | l, 0 => l
  | .nil, _ + 1 => .nil
  | .cons _ r, k + 1 => dropI r k
theorem items_at_get {H : Hp} : ∀ {l : Items} {vs : List V} {i : Nat} {v : V}, ItemsAt H l vs → vs[i]? = some v → ∃ x, dropI l i = .cons x (dropI l (i + 1)) ∧ ItemAt H x v
  | .nil, vs, i, v, h, hv => by
    have e : vs = [] := h
    rw [e] at hv; simp at hv
  | .cons x r, vs, 0, v, ⟨u, us, e, h1, h2⟩, hv => by
    subst e
    have e := Option.some.inj (show some u = some v from hv)
    subst e
    refine ⟨x, ?_, h1⟩
    show Items.cons x r = .cons x (dropI r 0)
    cases r <;> rfl
  | .cons x r, vs, i + 1, v, ⟨u, us, e, h1, h2⟩, hv => by
    subst e
    exact items_at_get (l := r) (vs := us) (i := i) (v := v) h2 (by simpa using hv)
theorem dropI_len {H : Hp} : ∀ {l : Items} {vs : List V}, ItemsAt H l vs → dropI l vs.length = .nil
  | .nil, vs, h => by
    have e : vs = [] := h
    rw [e]; rfl
  | .cons x r, vs, ⟨u, us, e, h1, h2⟩ => by
    subst e
    exact dropI_len (l := r) (vs := us) h2
theorem deep_drop : ∀ {l : Items} {d k : Nat}, DeepIs l d → DeepIs (dropI l k) d
  | l, _, 0, h => by cases l <;> exact h
  | .nil, _, _ + 1, h => h
  | .cons _ r, _, k + 1, h => deep_drop (l := r) (k := k) h.2
theorem good_drop {n : Nat} : ∀ {l : Items} {k : Nat}, GoodIs n l → GoodIs n (dropI l k)
  | l, 0, h => by cases l <;> exact h
  | .nil, _ + 1, h => h
  | .cons _ r, k + 1, h => good_drop (l := r) (k := k) h.2
section
variable {P : Program} {w : World} {K : PySem.W.Frag} {mg : Str → Option Value} {base : Heap}
theorem sc_knit_items : FnScope ["work", "items", "sort", "inner", "form", "turn"] ["work", "items"] (defScope s_knit_items) := ⟨rfl, rfl, rfl, by decide +kernel, rfl, by decide +kernel, by decide +kernel⟩
theorem ok_knit_items {k d : Nat} (hk : 4 ≤ k) (T : Txt K mg) (D : Def K mg "knit_items" s_knit_items) (c_begin : Cal P w K mg base (L2.CX P w) 3 "begin" ["work"] (spBeg K)) (c_times_of : Cal P w K mg base (L2.CX P w) 3 "times_of" ["work", "form"] (spTimesOf K))
    (c_knit_stitch : Cal P w K mg base (L2.CX P w) 4 "knit_stitch" ["work", "stitch", "form"] (spKnitS K)) (c_knit_items : Cal P w K mg base (L2.CX P w) k "knit_items" ["work", "items"] (spKnitI0 K d)) (c_knit_fill : Cal P w K mg base (L2.CX P w) (k + 1) "knit_fill" ["work", "items", "form"] (spFill K d)) :
    Cal P w K mg base (L2.CX P w) (k + 2) "knit_items" ["work", "items"] (spKnitI K d) := by
  have sc := sc_knit_items
  refine Cal.mk' D sc (fun _ _ _ _ _ _ us hl => match us, hl with | [_, _], _ => rfl) (fun vs H Q E h => ?_) (fun f cdv A outer s H vs Q E hr h => ?_)
  · obtain ⟨_, _, _, _, _, _, _, _, _, _, _, _, rfl, _⟩ := h; rfl
  obtain ⟨F0, F, wk, l, us, items, fu, v, r, row, done, ws, rfl, hS, hl0, hIt, hdp, hGI, hEn, hQ⟩ := h
  have k3 : 3 ≤ k + 1 := by omega
  have k4 : 4 ≤ k + 1 := by omega
  refine ⟨_, (pss_one (ps_for (passes_of rfl) rfl (pi_list (pv 1)) (pg_tup rfl (pgs_cons (pg_name (i := 2) sc.nd rfl (Or.inl rfl)) (pgs_cons (pg_name (i := 3) sc.nd rfl (Or.inl rfl)) (pgs_cons (pg_name (i := 4) sc.nd rfl (Or.inl rfl)) pgs_nil)))) (pss_cons (ps_expr (pe_f c_begin hr passR (pa_cons (pv 0) pa_nil) (hk := k3)))
    (pss_one (ps_if (pt_cmpR op_eq (pv 2) (pe_gi T.i_STITCH) (nomark _)) (pss_one (ps_expr (pe_f c_knit_stitch hr passR (pa_cons (pv 0) (pa_cons (pv 3) (pa_cons (pv 4) pa_nil))) (hk := k4)))) (pss_one (ps_if (pt_cmpR op_eq (pv 2) (pe_gi T.i_ROUND) (nomark _)) (pss_one (ps_for (passes_of rfl) rfl (pi_range1 rfl T.f_range (pa_cons (pe_f c_times_of hr passR (pa_cons (pv 0) (pa_cons (pv 4) pa_nil)) (hk := k3)) pa_nil)) (pg_name (i := 5) sc.nd rfl (Or.inl rfl)) (pss_one (ps_expr (pe_f c_knit_items hr passR (pa_cons (pv 0) (pa_cons (pv 3) pa_nil)) (hk := Nat.le_succ _)))))) (pss_one (ps_expr (pe_f c_knit_fill hr passR (pa_cons (pv 0) (pa_cons (pv 3) (pa_cons (pv 4) pa_nil))) (hk := Nat.le_refl _))))))))))), ?_⟩
  have s0 : Same F0 H := hS.s0.trans hS.s1
  refine ⟨_, rfl, l, rfl, ⟨_, SqL.of (s0 _ _ hl0)⟩, for_it walk_list (fun i σ H' => ∃ (F' : Hp) (r' : Vbktaa.Run) (fi : Nat) (v2 v3 v4 v5 : Option V), σ = [some (.ref wk), some (.ref l), v2, v3, v4, v5] ∧ WS K F0 F' H' wk v r' row done ws ∧ Enough fi r' (dropI items i) ∧
      runItems v fu items r = runItems v fi (dropI items i) r')
    ⟨F, r, fu, none, none, none, none, rfl, hS, by cases items <;> exact hEn, by cases items <;> rfl⟩ (fun i σ H' _ ⟨_, _, _, _, _, _, _, _, q, _⟩ => SqL.of ((q.s0.trans q.s1) _ _ hl0)) ?_ ?_⟩
  · rintro i x σ H1 H2 hi ⟨F1, r1, fi, v2, v3, v4, v5, rfl, S1, hEn1, hE⟩ ⟨rfl, hx⟩
    obtain ⟨it, hdI, hitem⟩ := items_at_get hIt hx
    have hdr := deep_drop (k := i) hdp
    have hgr := good_drop (k := i) hGI
    rw [hdI] at hEn1 hE hdr hgr
    obtain ⟨hd1, _⟩ := hdr
    obtain ⟨hg1, _⟩ := hgr
    have hfi : 3 * r1.left + 1 ≤ fi := hEn1.2 rfl
    obtain ⟨g, rfl⟩ : ∃ g, fi = g + 1 := ⟨fi - 1, by omega⟩
    rw [runItems_cons] at hE
    have s01 := S1.s0.trans S1.s1
    -- the tuple is unpacked
    obtain ⟨tp, so, iv, bb, hx', htp, hso⟩ : ∃ (tp : Addr) (so : Int) (iv : V) (bb : Addr), x = .ref tp ∧ F0 tp = some (.tup [.int so, iv, .ref bb]) ∧ (so = 0 ∨ so = 1 ∨ so = 2) := by
      cases it with
      | st s t =>
        obtain ⟨p, b, e, h1, _⟩ := hitem
        exact ⟨p, 0, _, b, e, h1, .inl rfl⟩
      | group l t =>
        obtain ⟨p, q, b, vs, e, h1, _⟩ := hitem
        exact ⟨p, 1, _, b, e, h1, .inr (.inl rfl)⟩
      | fill l t =>
        obtain ⟨p, q, b, vs, e, h1, _⟩ := hitem
        exact ⟨p, 2, _, b, e, h1, .inr (.inr rfl)⟩
    subst hx'
    refine ⟨tp, _, rfl, SqT.of (s01 _ _ htp), rfl, _, _, rfl, _, _, rfl, _, _, rfl, rfl, ?_⟩
    have stepQ : ∀ (E : Unit), True := fun _ => trivial
    clear stepQ
    refine ⟨_, rfl, F0, F1, wk, v, r1, row, done, ws, rfl, S1, fun c0 => ?_, fun c0 H3 F3 S3 => ?_⟩
    · -- no step is left
      have e : runItem v g it r1 = .error 5 := by
        cases g with
        | zero => exact runItem_zero v it r1
        | succ g => rw [runItem_succ, if_pos c0]
      rw [e] at hE
      rw [hE] at hQ
      exact hQ
    · obtain ⟨g2, rfl⟩ : ∃ g2, g = g2 + 1 := ⟨g - 1, by omega⟩
      have s03 := S3.s0.trans S3.s1
      -- behind the item
      have after : ∀ (q : Vbktaa.Run) (H4 F4 : Hp) (w2 w3 w4 w5 : Option V), runItem v (g2 + 1) it r1 = .ok q → WS K F0 F4 H4 wk v q row done ws → ∃ (F' : Hp) (r' : Vbktaa.Run) (fi : Nat) (v2 v3 v4 v5 : Option V), [some (V.ref wk), some (V.ref l), w2, w3, w4, w5] = [some (.ref wk), some (.ref l), v2, v3, v4, v5] ∧ WS K F0 F' H4 wk v r' row done ws ∧ Enough fi r' (dropI items (i + 1)) ∧
          runItems v fu items r = runItems v fi (dropI items (i + 1)) r' := by
        intro q H4 F4 w2 w3 w4 w5 eq S4
        have hql := (item_step (v := v) (L := r1.left) (fun m _ => fuel_at v m) it r1 rfl (g2 + 1) (g2 + 1) (by omega) (by omega)).2 q eq
        rw [eq] at hE
        exact ⟨F4, q, g2 + 1, w2, w3, w4, w5, rfl, S4, ⟨by omega, fun _ => by omega⟩, hE⟩
      -- an error is the whole's
      have fail : ∀ y, runItem v (g2 + 1) it r1 = .error y → GoesW K F0 E wk v row done y := fun y e => by
        rw [e] at hE
        rw [hE] at hQ
        exact hQ
      clear hE
      rw [runItem_succ, if_neg c0] at fail after
      cases it with
      | st st t =>
        obtain ⟨p, b, e1, h1, h2⟩ := hitem
        cases e1
        rw [htp] at h1
        cases h1
        refine ⟨_, rfl, rfl, _, rfl, if_true_of rfl ?_⟩
        refine ⟨_, rfl, _, rfl, _, rfl, F0, F3, wk, _, st, t, v, _, row, done, ws, rfl, hg1.1, S3, s03 _ _ h2, hg1.2, fun c1 => fail 1 (by dsimp only; rw [if_pos c1]), fun c1 c5 => fail 5 (by dsimp only; rw [if_neg (by omega), if_pos c5]), fun n hn hnl => ⟨fun c3 => fail 3 ?_, fun c3 H5 F5 S5 => ?_⟩⟩
        · dsimp only at hnl c3 ⊢
          rw [if_neg (by omega), if_neg (by omega), hn, Int.toNat_natCast, if_pos c3]
        · refine after _ H5 F5 _ _ _ _ ?_ S5
          dsimp only at hnl c3 ⊢
          rw [if_neg (by omega), if_neg (by omega), hn, Int.toNat_natCast, if_neg (by omega)]; rfl
      | group ig t =>
        obtain ⟨p, q, b, vs, e1, h1, h2, h3, h4⟩ := hitem
        cases e1
        rw [htp] at h1
        cases h1
        obtain ⟨d', ed, hd'⟩ := hd1
        subst ed
        dsimp only at fail after
        refine ⟨_, rfl, rfl, _, rfl, if_false_of rfl ⟨_, rfl, rfl, _, rfl, if_true_of rfl ?_⟩⟩
        refine ⟨_, rfl, _, rfl, F0, F3, wk, _, t, v, _, row, done, ws, rfl, S3, s03 _ _ h4, hg1.2, fun c1 => fail 1 (by rw [if_pos c1]), fun c1 c5 => fail 5 (by rw [if_neg (by omega), if_pos c5]), fun c1 c5 H4 s4 => ?_⟩
        obtain ⟨n, hn⟩ : ∃ n : Nat, Vbktaa.value v t = (n : Int) := ⟨(Vbktaa.value v t).toNat, by omega⟩
        have c5' : Vbktaa.value v t ≤ ((r1.left - 1 : Nat) : Int) := c5
        rw [if_neg (by omega), if_neg (by omega), hn, Int.toNat_natCast] at fail after
        rw [hn] at c5'
        rw [hn]
        have S4 := S3.grow s4
        have hrl : r1.left ≤ 1500 := by have := S1.few; omega
        refine ⟨_, rfl, by omega, by omega, ?_⟩
        rw [Int.toNat_natCast]
        refine for_it walk_range (fun j σ H' => ∃ (F' : Hp) (r' : Vbktaa.Run) (v4' v5' : Option V), σ = [some (.ref wk), some (.ref l), some (.int 1), some (.ref q), v4', v5'] ∧ WS K F0 F' H' wk v r' row done ws ∧ r'.left ≤ r1.left - 1 ∧ (isNil ig = false → r'.left + j ≤ r1.left - 1) ∧
          runTimes v g2 ig n { r1 with left := r1.left - 1 } = runTimes v (g2 - j) ig (n - j) r') ⟨_, _, _, _, rfl, S4, Nat.le_refl _, fun _ => Nat.le_refl _, rfl⟩ (fun _ _ _ _ _ => trivial) ?_ ?_
        · rintro j x σ H5 H6 hj ⟨F5, r5, v4', v5', rfl, S5, hr5, hr5', hE5⟩ ⟨rfl, rfl⟩
          obtain ⟨g3, hg3⟩ : ∃ g3, g2 - j = g3 + 1 := ⟨g2 - j - 1, by omega⟩
          obtain ⟨m, hm⟩ : ∃ m, n - j = m + 1 := ⟨n - j - 1, by omega⟩
          rw [hg3, hm, runTimes_succ] at hE5
          have hEn5 : Enough g3 r5 ig := ⟨by omega, fun z => by have := hr5' z; omega⟩
          refine ⟨_, rfl, _, rfl, F0, F5, wk, q, vs, ig, g3, v, r5, row, done, ws, rfl, S5, h2, h3, hd', hg1.1, hEn5, ?_⟩
          cases ex : runItems v g3 ig r5 with
          | error y =>
            rw [ex] at hE5
            exact fail y hE5
          | ok q5 =>
            rw [ex] at hE5
            intro H7 F7 S7
            have hql := items_left hEn5 ex
            refine ⟨F7, q5, _, _, rfl, S7, by omega, fun z => by have := hr5' z; have := hql.2 z; omega, ?_⟩
            rw [show g2 - (j + 1) = g3 by omega, show n - (j + 1) = m by omega]
            exact hE5
        · rintro σ H5 ⟨F5, r5, v4', v5', rfl, S5, hr5, hr5', hE5⟩
          rw [Nat.sub_self] at hE5
          obtain ⟨g3, hg3⟩ : ∃ g3, g2 - n = g3 + 1 := ⟨g2 - n - 1, by omega⟩
          rw [hg3, runTimes_none] at hE5
          exact after r5 H5 F5 _ _ _ _ hE5 S5
      | fill ig t =>
        obtain ⟨p, q, b, vs, e1, h1, h2, h3, h4⟩ := hitem
        cases e1
        rw [htp] at h1
        cases h1
        refine ⟨_, rfl, rfl, _, rfl, if_false_of rfl ⟨_, rfl, rfl, _, rfl, if_false_of rfl ?_⟩⟩
        refine ⟨_, rfl, _, rfl, _, rfl, F0, F3, wk, q, _, vs, ig, t, g2, v, _, row, done, ws, rfl, S3, h2, h3, hd1, hg1.1, h4, hg1.2, by show 3 * (r1.left - 1) + 2 ≤ g2; omega, ?_⟩
        dsimp only at fail after
        unfold fillRes
        cases er : (if Vbktaa.value v t < 0 then (.error 1 : Except Nat Vbktaa.Run) else if (r1.rem : Int) < Vbktaa.value v t then .error 2 else runFill v g2 ig (Vbktaa.value v t).toNat { r1 with left := r1.left - 1 }) with
        | error y => exact fail y er
        | ok q' => exact fun H5 F5 S5 => after q' H5 F5 _ _ _ _ er S5
  · rintro σ H1 ⟨F1, r1, fi, v2, v3, v4, v5, rfl, S1, hEn1, hE⟩
    rw [dropI_len hIt] at hE hEn1
    obtain ⟨g, rfl⟩ : ∃ g, fi = g + 1 := ⟨fi - 1, by have := hEn1.1; omega⟩
    rw [runItems_nil] at hE
    rw [hE] at hQ
    exact hQ _ _ S1
theorem ok_knits (T : Txt K mg) (R : RaiG P w K mg base) (Di : Def K mg "knit_items" s_knit_items) (Df : Def K mg "knit_fill" s_knit_fill) (c_begin : Cal P w K mg base (L2.CX P w) 3 "begin" ["work"] (spBeg K)) (c_times_of : Cal P w K mg base (L2.CX P w) 3 "times_of" ["work", "form"] (spTimesOf K))
    (c_knit_stitch : Cal P w K mg base (L2.CX P w) 4 "knit_stitch" ["work", "stitch", "form"] (spKnitS K)) (c_value_of : Cal P w K mg base CX0 1 "value_of" ["form", "size"] (spValue K)) : Cal P w K mg base (L2.CX P w) 12 "knit_items" ["work", "items"] (spKnitI K 3) := by
  have n0 : Cal P w K mg base (L2.CX P w) 4 "knit_items" ["work", "items"] (spKnitI0 K 0) :=
    Cal.never Di (fun _ _ _ _ _ _ us hl => match us, hl with | [_, _], _ => rfl) (fun _ _ _ _ h => h)
  have f0 := ok_knit_fill (by decide) T R Df c_value_of n0
  have n1 : Cal P w K mg base (L2.CX P w) 6 "knit_items" ["work", "items"] (spKnitI0 K 1) := ok_knit_items (by decide) T Di c_begin c_times_of c_knit_stitch n0 f0
  have f1 := ok_knit_fill (by decide) T R Df c_value_of n1
  have n2 : Cal P w K mg base (L2.CX P w) 8 "knit_items" ["work", "items"] (spKnitI0 K 2) := ok_knit_items (by decide) T Di c_begin c_times_of c_knit_stitch n1 f1
  have f2 := ok_knit_fill (by decide) T R Df c_value_of n2
  have n3 : Cal P w K mg base (L2.CX P w) 10 "knit_items" ["work", "items"] (spKnitI0 K 3) := ok_knit_items (by decide) T Di c_begin c_times_of c_knit_stitch n2 f2
  have f3 := ok_knit_fill (by decide) T R Df c_value_of n3
  exact ok_knit_items (by decide) T Di c_begin c_times_of c_knit_stitch n3 f3
end
end Kn
namespace Kn
open PySem PySem.Spec PyProof.Rows L2
open Vbktaa (Form Size Item Items Part Parts made uses runItem runItems runTimes runFill FUEL)
section
variable {K : PySem.W.Frag} {F0 F H H' : Hp} {wk : Addr} {v : List Int} {r : Vbktaa.Run} {row : Int} {done : List (Nat × List Nat)} {ws : List Nat}
/-- a row is done -/
theorem WS.rowDone (h : WS K F0 F H wk v r row done ws) {dx sz st dn wd t : Addr} {ds : List V} {k : Nat} (hw : H wk = some (.ins (He.ga K "Work") dx (workF sz r.left row r.rem (made r.out) st dn wd))) (hd : H dn = some (.lst ds)) (ht : H t = none) :
    WS K F0 (upd F t (.tup [.int (k : Int), .ref st])) (upd (upd (upd H t (.tup [.int (k : Int), .ref st])) dn (.lst (ds ++ [.ref t]))) wd (.lst (VT ws ++ [.int (made r.out : Int)]))) wk v r row (done ++ [(k, r.out.reverse)]) (ws ++ [made r.out]) := by
  obtain ⟨dx', sz', st', dn', wd', ds', h1, h2, h3, h4, h5, h6, h7, h8, h9, h10⟩ := h.ex
  rw [h1] at hw
  obtain ⟨_, e1, e2⟩ := HO.ins.inj (Option.some.inj hw)
  have e3 : sz' = sz ∧ st' = st ∧ dn' = dn ∧ wd' = wd := by
    unfold workF at e2
    simp only [List.cons.injEq, Prod.mk.injEq, V.ref.injEq, true_and, and_true] at e2
    exact e2
  obtain ⟨e4, e5, e6, e7⟩ := e3
  subst e1 e4 e5 e6 e7
  rw [h5] at hd
  cases hd
  have nt : ∀ {b : Addr} {o : HO}, H b = some o → b ≠ t := fun hb => ne_of_none hb ht
  have g : Same F (upd F t (.tup [.int (k : Int), .ref st'])) := same_new (h.s1.free ht)
  have n1 : wk ≠ dn' := fun e => by rw [e, h5] at h1; cases h1
  have n2 : wk ≠ wd' := fun e => by rw [e, h8] at h1; cases h1
  refine ⟨⟨dx', sz', st', dn', wd', ds' ++ [t], ?_, ?_, g _ _ h3, g _ _ h4, ?_, ?_, paired_snoc ⟨st', upd_same, g _ _ h4⟩ (paired_mono (fun _ _ z => z.mono g) h7), ?_, ?_, h10⟩, h.few, h.s0.trans g, fun b o hb => ?_⟩
  · rw [upd_ne n2, upd_ne n1, upd_ne (nt h1)]; exact h1
  · rw [upd_ne (nt h1)]; exact h2
  · rw [upd_ne h10, upd_same, List.map_append]; rfl
  · rw [upd_ne (nt h5)]; exact h6
  · rw [upd_same, VT_app]; rfl
  · rw [upd_ne (nt h8)]; exact h9
  · by_cases e : b = t
    · rw [e, upd_same] at hb
      rw [e, upd_ne (Ne.symm (nt h8)), upd_ne (Ne.symm (nt h5)), upd_same]; exact hb
    · rw [upd_ne e] at hb
      rw [upd_ne (ne_of_none hb h9), upd_ne (ne_of_none hb h6), upd_ne e]
      exact h.s1 _ _ hb
end
section
variable {P : Program} {w : World} {K : PySem.W.Frag} {mg : Str → Option Value} {base : Heap}
/-! ### knit_row -/
def spKnitRow (K : PySem.W.Frag) : Sp := fun vs H Q E => ∃ (F0 F : Hp) (wk l : Addr) (k width : Nat) (us : List V) (items : Items) (v : List Int) (r : Vbktaa.Run) (done : List (Nat × List Nat)) (ws : List Nat), vs = [.ref wk, .int (k : Int), .ref l] ∧ WS K F0 F H wk v r (-1) done ws ∧ ws.getLast? = some width ∧ done.length + r.left ≤ 1500 ∧ ws.length ≤ done.length + 1 ∧
  F0 l = some (.lst us) ∧ ItemsAt F0 items us ∧ DeepIs items 3 ∧ GoodIs v.length items ∧ (r.left = 0 → GoesW K F0 E wk v (-1) done 5) ∧
  (r.left ≠ 0 → match runItems v FUEL items ⟨width, [], r.left - 1⟩ with
    | .error y => GoesW K F0 E wk v (k : Int) done y
    | .ok q => (q.rem ≠ 0 → GoesW K F0 E wk v (k : Int) done 4) ∧ (q.rem = 0 → ∀ H' F', WS K F0 F' H' wk v q (-1) (done ++ [(k, q.out.reverse)]) (ws ++ [made q.out]) → Q .non H'))
theorem sc_knit_row : FnScope ["work", "number", "items"] ["work", "number", "items"] (defScope s_knit_row) := ⟨rfl, rfl, rfl, by decide +kernel, rfl, by decide +kernel, by decide +kernel⟩
theorem ok_knit_row (T : Txt K mg) (R : RaiG P w K mg base) (D : Def K mg "knit_row" s_knit_row) (c_begin : Cal P w K mg base (L2.CX P w) 3 "begin" ["work"] (spBeg K)) (c_knit_items : Cal P w K mg base (L2.CX P w) 12 "knit_items" ["work", "items"] (spKnitI K 3)) :
    Cal P w K mg base (L2.CX P w) 13 "knit_row" ["work", "number", "items"] (spKnitRow K) := by
  have sc := sc_knit_row
  refine Cal.mk' D sc (fun _ _ _ _ _ _ us hl => match us, hl with | [_, _, _], _ => rfl) (fun vs H Q E h => ?_) (fun f cdv A outer s H vs Q E hr h => ?_)
  · obtain ⟨_, _, _, _, _, _, _, _, _, _, _, _, rfl, _⟩ := h; rfl
  obtain ⟨F0, F, wk, l, k, width, us, items, v, r, done, ws, rfl, hS, hwl, hdl, hwsl, hl0, hIt, hdp, hGI, h5e, hQ⟩ := h
  refine ⟨_, (pss_cons (ps_expr (pe_f c_begin hr passR (pa_cons (pv 0) pa_nil)))
  (pss_cons (ps_fld (pv 0) (pv 1) rfl)
  (pss_cons (ps_fld (pv 0) (pe_ix ix_list (pe_fld (pv 0) rfl) (pe_un un_neg pe_int) (fun _ _ => rfl)) rfl)
  (pss_cons (ps_fld (pv 0) pe_int rfl)
  (pss_cons (ps_fld (pv 0) (pe_lst pa_nil) rfl)
  (pss_cons (ps_expr (pe_f c_knit_items hr passR (pa_cons (pv 0) (pa_cons (pv 2) pa_nil))))
  (pss_cons (ps_if (pt_cmpR op_gt (pe_fld (pv 0) rfl) pe_int (nomark _)) (pss_one (ps_raise rfl (takes_of rfl rfl rfl rfl) (pmk_Gone R hr (mono_cons mono_c mono_nil) (pa_cons pe_int pa_nil)))) pss_nil)
  (pss_cons (ps_fld (pv 0) (pe_gi T.i_NO_ROW) rfl)
  (pss_cons (ps_expr (pe_bm PySem.F.plainAttrs_list PySem.F.slot_list_append PySem.F.type_list_append mt_append (pe_fld (pv 0) rfl) (pa_cons (pe_tup (pa_cons (pv 1) (pa_cons (pe_fld (pv 0) rfl) pa_nil))) pa_nil)))
  (pss_one (ps_expr (pe_bm PySem.F.plainAttrs_list PySem.F.slot_list_append PySem.F.type_list_append mt_append (pe_fld (pv 0) rfl) (pa_cons (pe_fld (pv 0) rfl) pa_nil))))))))))))), ?_⟩
  refine ⟨_, rfl, F0, F, wk, v, r, (-1), done, ws, rfl, hS, h5e, fun c0 H1 F1 S1 => ?_⟩
  have hQ' := hQ c0
  obtain ⟨dx, sz, st, dn, wd, ds, h1, h2, h3, h4, h5, h6, h7, h8, h9, h10⟩ := S1.ex
  have nwd : wd ≠ wk := fun e => by rw [e, h1] at h8; cases h8
  refine ⟨_, rfl, _, rfl, wk, _, dx, _, rfl, h1, T.cWork, T.nWork_row, by show 8 < 1000; decide, ?_⟩
  refine ⟨_, rfl, wk, _, dx, _, _, rfl, upd_same, T.cWork, T.nWork_widths, rfl, _, rfl, wd, _, _, _, rfl, rfl, SqL.of (by rw [upd_ne nwd]; exact h8), last_at hwl, _, rfl, wk, _, dx, _, rfl, upd_same, T.cWork, T.nWork_left, by show 8 < 1000; decide, ?_⟩
  refine ⟨_, rfl, wk, _, dx, _, rfl, upd_same, T.cWork, T.nWork_fresh, by show 8 < 1000; decide, ?_⟩
  refine ⟨small' (by decide), fun o3 ho3 => ⟨_, rfl, wk, _, dx, _, rfl, put_at ho3 upd_same, T.cWork, T.nWork_stitches, by show 8 < 1000; decide, ?_⟩⟩
  have f3 : H1 o3 = none ∧ o3 ≠ wk := by
    have nw : o3 ≠ wk := fun e => by rw [e, upd_same] at ho3; cases ho3
    rw [upd_ne nw, upd_ne nw, upd_ne nw] at ho3
    exact ⟨ho3, nw⟩
  have hrl : r.left ≤ 1500 := by have := hS.few; omega
  refine ⟨_, rfl, _, rfl, F0, upd F1 o3 (.lst (VT (⟨width, [], r.left - 1⟩ : Vbktaa.Run).out.reverse)), wk, l, us, items, FUEL, v, ⟨width, [], r.left - 1⟩, (k : Int), done, ws, rfl, ?_, hl0, hIt, hdp, hGI, ⟨by decide, fun _ => by show 3 * (r.left - 1) + 1 ≤ 9100; omega⟩, ?_⟩
  · refine WS.turn S1 (r' := ⟨width, [], r.left - 1⟩) (o3 := o3) (row' := (k : Int)) h1 (fun b' o nb hb => ?_) f3.1 ?_ ?_ ?_
    · rw [upd_ne nb, upd_ne (ne_of_none hb f3.1), upd_ne nb, upd_ne nb, upd_ne nb]
      exact hb
    · rw [upd_ne f3.2, upd_same]; rfl
    · rw [upd_same]; rfl
    · show 0 + (r.left - 1) ≤ 1500
      omega
  cases ex : runItems v FUEL items ⟨width, [], r.left - 1⟩ with
  | error y =>
    rw [ex] at hQ'
    exact hQ'
  | ok q =>
    rw [ex] at hQ'
    obtain ⟨h4e, hok⟩ := hQ'
    intro H3 F3 S3
    obtain ⟨dx3, sz3, st3, dn3, wd3, ds3, i1, i2, i3, i4, i5, i6, i7, i8, i9, i10⟩ := S3.ex
    refine ⟨_, rfl, wk, _, dx3, _, _, rfl, i1, T.cWork, T.nWork_left, rfl, _, _, rfl, rfl, _, rfl, ?_⟩
    by_cases c1 : q.rem = 0
    · refine if_false_of (decide_eq_false (by omega)) ?_
      refine ⟨_, rfl, wk, _, dx3, _, rfl, i1, T.cWork, T.nWork_row, by show 8 < 1000; decide, ?_⟩
      have S4 := S3.set (r' := q) (row' := (-1)) i1 i4 S3.few
      obtain ⟨dx4, sz4, st4, dn4, wd4, ds4, k1, k2, k3, k4, k5, k6, k7, k8, k9, k10⟩ := S4.ex
      refine ⟨_, rfl, wk, _, dx4, _, _, rfl, k1, T.cWork, T.nWork_done, rfl, .inl ⟨rfl, _, SqL.of k5⟩, ?_⟩
      refine ⟨_, rfl, _, rfl, wk, _, dx4, _, _, rfl, k1, T.cWork, T.nWork_stitches, rfl, small' (by show 2 ≤ 16000000; decide), fun t ht => ?_⟩
      have nwk : wk ≠ dn4 := fun e => by rw [← e, k1] at k5; cases k5
      refine ⟨dn4, _, _, rfl, rfl, put_at ht k5, small (by rw [List.length_map, paired_len k7]; omega), ?_⟩
      refine ⟨_, rfl, wk, _, dx4, _, _, rfl, (show _ = some (HO.ins (He.ga K "Work") dx4 (workF sz4 q.left (-1) q.rem (made q.out) st4 dn4 wd4)) by rw [upd_ne nwk]; exact put_at ht k1), T.cWork, T.nWork_widths, rfl, .inl ⟨rfl, _, SqL.of (by rw [upd_ne (Ne.symm k10)]; exact put_at ht k8)⟩, ?_⟩
      refine ⟨_, rfl, wk, _, dx4, _, _, rfl, (show _ = some (HO.ins (He.ga K "Work") dx4 (workF sz4 q.left (-1) q.rem (made q.out) st4 dn4 wd4)) by rw [upd_ne nwk]; exact put_at ht k1), T.cWork, T.nWork_fresh, rfl, ?_⟩
      refine ⟨wd4, _, _, rfl, rfl, by rw [upd_ne (Ne.symm k10)]; exact put_at ht k8, small (by rw [VT_len]; omega), ?_⟩
      exact hok c1 _ _ (S4.rowDone (k := k) k1 k5 ht)
    · exact if_true_of (decide_eq_true (by omega)) ⟨_, rfl, GoesW.at_ (h4e c1) S3⟩
end
end Kn
namespace Kn
open PySem PySem.Spec PyProof.Rows L2
open Vbktaa (Form Size Item Items Part Parts Piece made uses knitPart knitParts knitTimes FUEL)
theorem made_rev (l : List Nat) : made l.reverse = made l := by
  rw [made_sum, made_sum, List.map_reverse, List.sum_reverse]
/-- the widths: of the cast, behind each row -/
def wids (c0 : Nat) (done : List (Nat × List Nat)) : List Nat := c0 :: done.map fun x => made x.2
/-- a piece on the heap -/
structure WP (K : PySem.W.Frag) (F0 F H : Hp) (wk : Addr) (v : List Int) (c0 : Nat) (x : Piece) : Prop where
  ex : ∃ r, r.left = x.left ∧ WS K F0 F H wk v r (-1) x.rows.reverse (wids c0 x.rows.reverse)
  wid : (wids c0 x.rows.reverse).getLast? = some x.width
  few : x.rows.length + x.left ≤ 1500
def rowI (w : Vbktaa.Wrong) : Int := match w.row with
  | some k => (k : Int)
  | none => -1
/-- what is asked of a way out by Gone, by what goes wrong -/
def GoesP (K : PySem.W.Frag) (F0 : Hp) (E : XK) (wk : Addr) (v : List Int) (w : Vbktaa.Wrong) : Prop := ∀ done : List (Nat × List Nat), done.length = w.done → GoesW K F0 E wk v (rowI w) done w.why
def PartQ (K : PySem.W.Frag) (F0 : Hp) (wk : Addr) (v : List Int) (c0 : Nat) (x : Except Vbktaa.Wrong Piece) (Q : VK) (E : XK) : Prop := match x with
  | .error w => GoesP K F0 E wk v w
  | .ok y => ∀ H' F', WP K F0 F' H' wk v c0 y → Q .non H'
def EnoughP (f : Nat) (x : Piece) (l : Parts) : Prop := 1 ≤ f ∧ (nilPs l = false → 3 * x.left + 1 ≤ f)
/-- the parts from a place on -/
def dropP : Parts → Nat → Parts
  | l, 0 => l
  | .nil, _ + 1 => .nil
  | .cons _ r, k + 1 => dropP r k
theorem parts_at_get {H : Hp} : ∀ {l : Parts} {vs : List V} {i : Nat} {v : V}, PartsAt H l vs → vs[i]? = some v → ∃ x, dropP l i = .cons x (dropP l (i + 1)) ∧ PartAt H x v
  | .nil, vs, i, v, h, hv => by
    have e : vs = [] := h
    rw [e] at hv; simp at hv
  | .cons x r, vs, 0, v, ⟨u, us, e, h1, h2⟩, hv => by
    subst e
    have e := Option.some.inj (show some u = some v from hv)
    subst e
    refine ⟨x, ?_, h1⟩
    show Parts.cons x r = .cons x (dropP r 0)
    cases r <;> rfl
  | .cons x r, vs, i + 1, v, ⟨u, us, e, h1, h2⟩, hv => by
    subst e
    exact parts_at_get (l := r) (vs := us) (i := i) (v := v) h2 (by simpa using hv)
theorem dropP_len {H : Hp} : ∀ {l : Parts} {vs : List V}, PartsAt H l vs → dropP l vs.length = .nil
  | .nil, vs, h => by
    have e : vs = [] := h
    rw [e]; rfl
  | .cons x r, vs, ⟨u, us, e, h1, h2⟩ => by
    subst e
    exact dropP_len (l := r) (vs := us) h2
theorem partsOk_drop {n d : Nat} {rows : List (List Nat × Items)} : ∀ {l : Parts} {k : Nat}, PartsOk n rows l d → PartsOk n rows (dropP l k) d
  | l, 0, h => by cases l <;> exact h
  | .nil, _ + 1, h => h
  | .cons _ r, k + 1, h => partsOk_drop (l := r) (k := k) h.2
section
variable {P : Program} {w : World} {K : PySem.W.Frag} {mg : Str → Option Value} {base : Heap}
def spKnitP (K : PySem.W.Frag) (d : Nat) : Sp := fun vs H Q E => ∃ (F0 F : Hp) (wk p l : Addr) (us : List V) (parts : Parts) (q : Vbktaa.Pattern) (rows : List (List Nat × Items)) (f : Nat) (v : List Int) (c0 : Nat) (x : Piece), vs = [.ref wk, .ref p, .ref l] ∧ WP K F0 F H wk v c0 x ∧ PatAt K F0 p q rows ∧
  (∀ y ∈ rows, RowG v.length y) ∧ F0 l = some (.lst us) ∧ PartsAt F0 parts us ∧ PartsOk v.length rows parts d ∧ EnoughP f x parts ∧ PartQ K F0 wk v c0 (knitParts v f parts x) Q E
def spKnitP0 (K : PySem.W.Frag) : Nat → Sp
  | 0 => fun _ _ _ _ => False
  | d + 1 => spKnitP K d
theorem sc_knit_parts : FnScope ["work", "pattern", "parts", "number", "inner", "form", "turn"] ["work", "pattern", "parts"] (defScope s_knit_parts) := ⟨rfl, rfl, rfl, by decide +kernel, rfl, by decide +kernel, by decide +kernel⟩
theorem ok_knit_parts {k d : Nat} (hk : 13 ≤ k) (T : Txt K mg) (D : Def K mg "knit_parts" s_knit_parts) (c_begin : Cal P w K mg base (L2.CX P w) 3 "begin" ["work"] (spBeg K)) (c_times_of : Cal P w K mg base (L2.CX P w) 3 "times_of" ["work", "form"] (spTimesOf K))
    (c_knit_row : Cal P w K mg base (L2.CX P w) 13 "knit_row" ["work", "number", "items"] (spKnitRow K)) (c_knit_parts : Cal P w K mg base (L2.CX P w) k "knit_parts" ["work", "pattern", "parts"] (spKnitP0 K d)) :
    Cal P w K mg base (L2.CX P w) (k + 1) "knit_parts" ["work", "pattern", "parts"] (spKnitP K d) := by
  have sc := sc_knit_parts
  refine Cal.mk' D sc (fun _ _ _ _ _ _ us hl => match us, hl with | [_, _, _], _ => rfl) (fun vs H Q E h => ?_) (fun f cdv A outer s H vs Q E hr h => ?_)
  · obtain ⟨_, _, _, _, _, _, _, _, _, _, _, _, _, rfl, _⟩ := h; rfl
  obtain ⟨F0, F, wk, p, l, us, parts, q, rows, fu, v, c0, x, rfl, hS, hP, hrg, hl0, hIt, hdp, hEn, hQ⟩ := h
  have k3 : 3 ≤ k := by omega
  refine ⟨_, (pss_one (ps_for (passes_of rfl) rfl (pi_list (pv 2)) (pg_tup rfl (pgs_cons (pg_name (i := 3) sc.nd rfl (Or.inl rfl)) (pgs_cons (pg_name (i := 4) sc.nd rfl (Or.inl rfl)) (pgs_cons (pg_name (i := 5) sc.nd rfl (Or.inl rfl)) pgs_nil)))) (pss_one (ps_if (pt_cmpR op_eq (pv 3) (pe_gi T.i_BLOCK) (nomark _)) (pss_cons (ps_expr (pe_f c_begin hr passR (pa_cons (pv 0) pa_nil) (hk := k3)))
      (pss_one (ps_for (passes_of rfl) rfl (pi_range1 rfl T.f_range (pa_cons (pe_f c_times_of hr passR (pa_cons (pv 0) (pa_cons (pv 5) pa_nil)) (hk := k3)) pa_nil)) (pg_name (i := 6) sc.nd rfl (Or.inl rfl)) (pss_one (ps_expr (pe_f c_knit_parts hr passR (pa_cons (pv 0) (pa_cons (pv 1) (pa_cons (pv 4) pa_nil))) (hk := Nat.le_refl _))))))) (pss_one (ps_expr (pe_f c_knit_row hr passR (pa_cons (pv 0) (pa_cons (pv 3) (pa_cons (pe_ix ix_tup (pe_ix ix_list (pe_fld (pv 1) rfl) (pv 3) (fun _ _ => rfl)) pe_int (fun _ _ => rfl)) pa_nil))) (hk := hk)))))))), ?_⟩
  obtain ⟨r0, hr0, hW0⟩ := hS.ex
  have s0 : Same F0 H := hW0.s0.trans hW0.s1
  refine ⟨_, rfl, l, rfl, ⟨_, SqL.of (s0 _ _ hl0)⟩, for_it walk_list (fun i σ H' => ∃ (F' : Hp) (y : Piece) (fi : Nat) (v3 v4 v5 v6 : Option V), σ = [some (.ref wk), some (.ref p), some (.ref l), v3, v4, v5, v6] ∧ WP K F0 F' H' wk v c0 y ∧ EnoughP fi y (dropP parts i) ∧
      knitParts v fu parts x = knitParts v fi (dropP parts i) y)
    ⟨F, x, fu, none, none, none, none, rfl, hS, by cases parts <;> exact hEn, by cases parts <;> rfl⟩ (fun i σ H' _ ⟨_, _, _, _, _, _, _, _, q, _⟩ => by
      obtain ⟨_, _, z⟩ := q.ex
      exact SqL.of ((z.s0.trans z.s1) _ _ hl0)) ?_ ?_⟩
  · rintro i x0 σ H1 H2 hi ⟨F1, y, fi, v3, v4, v5, v6, rfl, S1, hEn1, hE⟩ ⟨rfl, hx⟩
    obtain ⟨it, hdI, hitem⟩ := parts_at_get hIt hx
    have hdr := partsOk_drop (k := i) hdp
    rw [hdI] at hEn1 hE hdr
    obtain ⟨hd1, _⟩ := hdr
    have hfi : 3 * y.left + 1 ≤ fi := hEn1.2 rfl
    obtain ⟨g, rfl⟩ : ∃ g, fi = g + 1 := ⟨fi - 1, by omega⟩
    rw [knitParts_cons] at hE
    obtain ⟨r1, hr1, W1⟩ := S1.ex
    have s01 := W1.s0.trans W1.s1
    have hfew := S1.few
    -- an error is the whole's
    have fail : ∀ w, knitPart v g it y = .error w → GoesP K F0 E wk v w := fun w e => by
      rw [e] at hE
      rw [hE] at hQ
      exact hQ
    have out : y.left = 0 → GoesW K F0 E wk v (-1) y.rows.reverse 5 := fun c0' => by
      have e : knitPart v g it y = .error ⟨y.rows.length, none, 5⟩ := by
        cases g with
        | zero => exact knitPart_zero v it y
        | succ g => cases it with
          | row kk nm li => rw [knitPart_row, if_pos c0']
          | again t li => rw [knitPart_again, if_pos c0']
      exact fail _ e y.rows.reverse (by rw [List.length_reverse])
    -- behind the part
    have after : ∀ (z : Piece) (H4 F4 : Hp) (w3 w4 w5 w6 : Option V), y.left ≠ 0 → knitPart v g it y = .ok z → WP K F0 F4 H4 wk v c0 z → ∃ (F' : Hp) (y' : Piece) (fi : Nat) (v3 v4 v5 v6 : Option V), [some (V.ref wk), some (V.ref p), some (V.ref l), w3, w4, w5, w6] = [some (.ref wk), some (.ref p), some (.ref l), v3, v4, v5, v6] ∧ WP K F0 F' H4 wk v c0 y' ∧ EnoughP fi y' (dropP parts (i + 1)) ∧
        knitParts v fu parts x = knitParts v fi (dropP parts (i + 1)) y' := by
      intro z H4 F4 w3 w4 w5 w6 cl eq S4
      have hql := (part_left v g).part it y z (by omega) eq
      rw [eq] at hE
      exact ⟨F4, z, g, w3, w4, w5, w6, rfl, S4, ⟨by omega, fun _ => by omega⟩, hE⟩
    clear hE
    cases it with
    | row kk nm li =>
      obtain ⟨tp, e1, e2, ex, htp⟩ := hitem
      subst ex
      have hrow : rows[kk]? = some (nm, li) := hd1
      obtain ⟨dx, la, ca, ra, pa, as, rs, us', p1, p2, p3, p4, p5, p6, p7, p8⟩ := hP.ex
      have hkl : kk < rs.length := by rw [paired_len p6]; exact (List.getElem?_eq_some_iff.mp hrow).1
      obtain ⟨y', ey, n', q', uq, t1, t2, t3, t4⟩ := paired_get p6 (List.getElem?_eq_getElem hkl)
      rw [hrow] at ey
      cases ey
      have hG := hrg _ (List.mem_of_getElem? hrow)
      refine ⟨tp, _, rfl, SqT.of (s01 _ _ htp), rfl, _, _, rfl, _, _, rfl, _, _, rfl, rfl, ?_⟩
      refine ⟨_, rfl, rfl, _, rfl, if_false_of (decide_eq_false fun e => by have := V.int.inj e; omega) ?_⟩
      refine ⟨_, rfl, _, rfl, _, rfl, p, _, dx, _, _, rfl, s01 _ _ p1, T.cPattern, T.nPattern_rows, rfl, _, rfl, ra, _, _, _, rfl, rfl, SqL.of (s01 _ _ p5), atI_nat (j := kk) (by rw [List.getElem?_map, List.getElem?_eq_getElem hkl]; rfl), _, _, _, _, rfl, rfl, SqT.of (s01 _ _ t1), atI_nat (j := 1) rfl, ?_⟩
      refine ⟨F0, F1, wk, q', kk, y.width, uq, li, v, r1, y.rows.reverse, wids c0 y.rows.reverse, rfl, W1, S1.wid, by rw [List.length_reverse, hr1]; exact hfew, by unfold wids; simp, t3, t4, hG.deep, hG.good, fun c => out (by omega), fun c => ?_⟩
      obtain ⟨g2, rfl⟩ : ∃ g2, g = g2 + 1 := ⟨g - 1, by omega⟩
      rw [hr1]
      rw [knitPart_row, if_neg (by omega)] at fail after
      cases er : Vbktaa.runItems v FUEL li ⟨y.width, [], y.left - 1⟩ with
      | error w =>
        rw [er] at fail
        exact fail _ rfl y.rows.reverse (by rw [List.length_reverse])
      | ok rq =>
        rw [er] at fail after
        dsimp only at fail after
        refine ⟨fun c4 => ?_, fun c4 H3 F3 S3 => ?_⟩
        · rw [if_pos c4] at fail
          exact fail _ rfl y.rows.reverse (by rw [List.length_reverse])
        · rw [if_neg (by omega)] at after
          have hql := ((fuel_at v (y.left - 1)).items li ⟨y.width, [], y.left - 1⟩ rfl FUEL FUEL (by show 3 * (y.left - 1) + 1 ≤ 9100; omega) (by show 3 * (y.left - 1) + 1 ≤ 9100; omega)).2 rq er
          refine after ⟨made rq.out, (kk, rq.out.reverse) :: y.rows, rq.left⟩ H3 F3 _ _ _ _ (by omega) rfl ⟨⟨rq, rfl, ?_⟩, ?_, ?_⟩
          · show WS K F0 F3 H3 wk v rq (-1) ((kk, rq.out.reverse) :: y.rows).reverse (wids c0 ((kk, rq.out.reverse) :: y.rows).reverse)
            rw [List.reverse_cons]
            have ew : wids c0 (y.rows.reverse ++ [(kk, rq.out.reverse)]) = wids c0 y.rows.reverse ++ [made rq.out] := by
              unfold wids
              rw [List.map_append, List.cons_append]
              show _ = c0 :: (_ ++ [made rq.out])
              rw [← made_rev rq.out]; rfl
            rw [ew]
            exact S3
          · show (wids c0 ((kk, rq.out.reverse) :: y.rows).reverse).getLast? = some (made rq.out)
            rw [List.reverse_cons]
            unfold wids
            rw [List.map_append, ← List.cons_append]
            show (_ ++ [made rq.out.reverse]).getLast? = _
            rw [made_rev, List.getLast?_append]; rfl
          · show y.rows.length + 1 + rq.left ≤ 1500
            have := hql.1
            omega
    | again t li =>
      obtain ⟨tp, ql, b, vs, ex, htp, h2, h3, h4⟩ := hitem
      subst ex
      obtain ⟨d', ed, hGt, hd'⟩ := hd1
      subst ed
      refine ⟨tp, _, rfl, SqT.of (s01 _ _ htp), rfl, _, _, rfl, _, _, rfl, _, _, rfl, rfl, ?_⟩
      refine ⟨_, rfl, rfl, _, rfl, if_true_of (decide_eq_true rfl) ?_⟩
      refine ⟨_, rfl, F0, F1, wk, v, r1, (-1), y.rows.reverse, wids c0 y.rows.reverse, rfl, W1, fun c => out (by omega), fun c H3 F3 S3 => ?_⟩
      have cy : y.left ≠ 0 := by omega
      obtain ⟨g2, rfl⟩ : ∃ g2, g = g2 + 1 := ⟨g - 1, by omega⟩
      rw [knitPart_again, if_neg cy] at fail after
      have s03 := S3.s0.trans S3.s1
      have toW : ∀ w : Nat, GoesP K F0 E wk v ⟨y.rows.length, none, w⟩ → GoesW K F0 E wk v (-1) y.rows.reverse w := fun w h => h y.rows.reverse (by rw [List.length_reverse])
      refine ⟨_, rfl, _, rfl, F0, F3, wk, b, t, v, _, (-1), y.rows.reverse, wids c0 y.rows.reverse, rfl, S3, s03 _ _ h4, hGt, fun c1 => toW 1 (fail _ (by rw [if_pos c1])), fun c1 c5 => toW 5 (fail _ (by rw [if_neg (by omega), if_pos (by rw [← hr1]; exact c5)])), fun c1 c5 H4 s4 => ?_⟩
      obtain ⟨n, hn⟩ : ∃ n : Nat, Vbktaa.value v t = (n : Int) := ⟨(Vbktaa.value v t).toNat, by omega⟩
      have c5' : Vbktaa.value v t ≤ ((r1.left - 1 : Nat) : Int) := c5
      rw [hr1] at c5'
      rw [if_neg (by omega), if_neg (by omega), hn, Int.toNat_natCast] at fail after
      rw [hn] at c5'
      rw [hn]
      have S4 := S3.grow s4
      have P4 : WP K F0 (Grow F3 H3 H4) H4 wk v c0 { y with left := y.left - 1 } := ⟨⟨_, by show r1.left - 1 = y.left - 1; rw [hr1], S4⟩, S1.wid, by show y.rows.length + (y.left - 1) ≤ 1500; omega⟩
      refine ⟨_, rfl, by omega, by omega, ?_⟩
      rw [Int.toNat_natCast]
      refine for_it walk_range (fun j σ H' => ∃ (F' : Hp) (z : Piece) (v5' v6' : Option V), σ = [some (.ref wk), some (.ref p), some (.ref l), some (.int (-1)), some (.ref ql), v5', v6'] ∧ WP K F0 F' H' wk v c0 z ∧ z.left ≤ y.left - 1 ∧ (nilPs li = false → z.left + j ≤ y.left - 1) ∧
        knitTimes v g2 li n { y with left := y.left - 1 } = knitTimes v (g2 - j) li (n - j) z) ⟨_, _, _, _, rfl, P4, Nat.le_refl _, fun _ => Nat.le_refl _, rfl⟩ (fun _ _ _ _ _ => trivial) ?_ ?_
      · rintro j x σ H5 H6 hj ⟨F5, z, v5', v6', rfl, S5, hr5, hr5', hE5⟩ ⟨rfl, rfl⟩
        obtain ⟨g3, hg3⟩ : ∃ g3, g2 - j = g3 + 1 := ⟨g2 - j - 1, by omega⟩
        obtain ⟨m, hm⟩ : ∃ m, n - j = m + 1 := ⟨n - j - 1, by omega⟩
        rw [hg3, hm, knitTimes_succ] at hE5
        have hEn5 : EnoughP g3 z li := ⟨by omega, fun q => by have := hr5' q; omega⟩
        refine ⟨_, rfl, _, rfl, _, rfl, F0, F5, wk, p, ql, vs, li, q, rows, g3, v, c0, z, rfl, S5, hP, hrg, h2, h3, hd', hEn5, ?_⟩
        cases ex : knitParts v g3 li z with
        | error w =>
          rw [ex] at hE5
          exact fail w hE5
        | ok z2 =>
          rw [ex] at hE5
          intro H7 F7 S7
          have hql := (part_left v g3).parts li z z2 (by omega) ex
          refine ⟨F7, z2, _, _, rfl, S7, by omega, fun q => by have := hr5' q; have := hql.2 q; omega, ?_⟩
          rw [show g2 - (j + 1) = g3 by omega, show n - (j + 1) = m by omega]
          exact hE5
      · rintro σ H5 ⟨F5, z, v5', v6', rfl, S5, hr5, hr5', hE5⟩
        rw [Nat.sub_self] at hE5
        obtain ⟨g3, hg3⟩ : ∃ g3, g2 - n = g3 + 1 := ⟨g2 - n - 1, by omega⟩
        rw [hg3, knitTimes_none] at hE5
        exact after z H5 F5 _ _ _ _ cy hE5 S5
  · rintro σ H1 ⟨F1, y, fi, v3, v4, v5, v6, rfl, S1, hEn1, hE⟩
    rw [dropP_len hIt] at hE hEn1
    obtain ⟨g, rfl⟩ : ∃ g, fi = g + 1 := ⟨fi - 1, by have := hEn1.1; omega⟩
    rw [knitParts_nil] at hE
    rw [hE] at hQ
    exact hQ _ _ S1
theorem ok_parts (T : Txt K mg) (D : Def K mg "knit_parts" s_knit_parts) (c_begin : Cal P w K mg base (L2.CX P w) 3 "begin" ["work"] (spBeg K)) (c_times_of : Cal P w K mg base (L2.CX P w) 3 "times_of" ["work", "form"] (spTimesOf K))
    (c_knit_row : Cal P w K mg base (L2.CX P w) 13 "knit_row" ["work", "number", "items"] (spKnitRow K)) : Cal P w K mg base (L2.CX P w) 17 "knit_parts" ["work", "pattern", "parts"] (spKnitP K 3) := by
  have n0 : Cal P w K mg base (L2.CX P w) 13 "knit_parts" ["work", "pattern", "parts"] (spKnitP0 K 0) :=
    Cal.never D (fun _ _ _ _ _ _ us hl => match us, hl with | [_, _, _], _ => rfl) (fun _ _ _ _ h => h)
  have n1 : Cal P w K mg base (L2.CX P w) 14 "knit_parts" ["work", "pattern", "parts"] (spKnitP0 K 1) := ok_knit_parts (by decide) T D c_begin c_times_of c_knit_row n0
  have n2 : Cal P w K mg base (L2.CX P w) 15 "knit_parts" ["work", "pattern", "parts"] (spKnitP0 K 2) := ok_knit_parts (by decide) T D c_begin c_times_of c_knit_row n1
  have n3 : Cal P w K mg base (L2.CX P w) 16 "knit_parts" ["work", "pattern", "parts"] (spKnitP0 K 3) := ok_knit_parts (by decide) T D c_begin c_times_of c_knit_row n2
  exact ok_knit_parts (by decide) T D c_begin c_times_of c_knit_row n3
end
end Kn
namespace Kn
open PySem PySem.Spec PyProof.Rows L2
open Vbktaa (Form Size Item Items Part Parts Piece made uses knitPart knitParts knitTimes FUEL)
def knit0 (q : Vbktaa.Pattern) (v : List Int) : Except Vbktaa.Wrong Piece := if Vbktaa.value v q.cast < 1 then .error ⟨0, none, 6⟩ else if (1500 : Int) < Vbktaa.value v q.cast then .error ⟨0, none, 5⟩ else knitParts v FUEL q.parts ⟨(Vbktaa.value v q.cast).toNat, [], 1500⟩
theorem knit_is (q : Vbktaa.Pattern) (v : List Int) : Vbktaa.knit q v = (knit0 q v).map fun x => { x with rows := x.rows.reverse } := by
  unfold Vbktaa.knit knit0
  dsimp only
  by_cases c1 : Vbktaa.value v q.cast < 1
  · rw [if_pos c1, if_pos c1]; rfl
  · rw [if_neg c1, if_neg c1]
    by_cases c2 : (Vbktaa.STEPS : Int) < Vbktaa.value v q.cast
    · rw [if_pos c2, if_pos (show (1500 : Int) < _ from c2)]; rfl
    · rw [if_neg c2, if_neg (show ¬ (1500 : Int) < _ from c2)]; rfl
/-- the pattern and a size of it -/
structure Fits (q : Vbktaa.Pattern) (rows : List (List Nat × Items)) (n : Nat) : Prop where
  rowg : ∀ y ∈ rows, RowG n y
  parts : PartsOk n rows q.parts 3
  cast : GoodF n q.cast
section
variable {K : PySem.W.Frag} {F0 F H H' : Hp} {wk : Addr} {v : List Int} {r : Vbktaa.Run} {row : Int} {done : List (Nat × List Nat)} {ws : List Nat}
theorem WS.widen (h : WS K F0 F H wk v r row done ws) {dx sz st dn wd : Addr} {n : Nat} (hw : H wk = some (.ins (He.ga K "Work") dx (workF sz r.left row r.rem (made r.out) st dn wd))) : WS K F0 F (upd H wd (.lst (VT ws ++ [.int (n : Int)]))) wk v r row done (ws ++ [n]) := by
  obtain ⟨dx', sz', st', dn', wd', ds', h1, h2, h3, h4, h5, h6, h7, h8, h9, h10⟩ := h.ex
  rw [h1] at hw
  obtain ⟨_, e1, e2⟩ := HO.ins.inj (Option.some.inj hw)
  have e3 : sz' = sz ∧ st' = st ∧ dn' = dn ∧ wd' = wd := by
    unfold workF at e2
    simp only [List.cons.injEq, Prod.mk.injEq, V.ref.injEq, true_and, and_true] at e2
    exact e2
  obtain ⟨e4, e5, e6, e7⟩ := e3
  subst e1 e4 e5 e6 e7
  have n2 : wk ≠ wd' := fun e => by rw [e, h8] at h1; cases h1
  exact ⟨⟨dx', sz', st', dn', wd', ds', by rw [upd_ne n2]; exact h1, h2, h3, h4, by rw [upd_ne h10]; exact h5, h6, h7, by rw [upd_same, VT_app]; rfl, h9, h10⟩, h.few, h.s0, fun b o hb => by rw [upd_ne (ne_of_none hb h9)]; exact h.s1 _ _ hb⟩
end
section
variable {P : Program} {w : World} {K : PySem.W.Frag} {mg : Str → Option Value} {base : Heap}
/-! ### knit_all -/
def spKnitAll (K : PySem.W.Frag) : Sp := fun vs H Q E => ∃ (F0 F : Hp) (wk p : Addr) (q : Vbktaa.Pattern) (rows : List (List Nat × Items)) (v : List Int), vs = [.ref wk, .ref p] ∧ WS K F0 F H wk v ⟨0, [], 1500⟩ (-1) [] [] ∧ PatAt K F0 p q rows ∧ Fits q rows v.length ∧
  PartQ K F0 wk v (Vbktaa.value v q.cast).toNat (knit0 q v) Q E
theorem sc_knit_all : FnScope ["work", "pattern", "cast"] ["work", "pattern"] (defScope s_knit_all) := ⟨rfl, rfl, rfl, by decide +kernel, rfl, by decide +kernel, by decide +kernel⟩
theorem ok_knit_all (T : Txt K mg) (R : RaiG P w K mg base) (D : Def K mg "knit_all" s_knit_all) (c_value_of : Cal P w K mg base CX0 1 "value_of" ["form", "size"] (spValue K)) (c_knit_parts : Cal P w K mg base (L2.CX P w) 17 "knit_parts" ["work", "pattern", "parts"] (spKnitP K 3)) :
    Cal P w K mg base (L2.CX P w) 18 "knit_all" ["work", "pattern"] (spKnitAll K) := by
  have sc := sc_knit_all
  refine Cal.mk' D sc (fun _ _ _ _ _ _ us hl => match us, hl with | [_, _], _ => rfl) (fun vs H Q E h => ?_) (fun f cdv A outer s H vs Q E hr h => ?_)
  · obtain ⟨_, _, _, _, _, _, _, rfl, _⟩ := h; rfl
  obtain ⟨F0, F, wk, p, q, rows, v, rfl, hS, hP, hF, hQ⟩ := h
  refine ⟨_, (pss_cons (ps_set (i := 2) sc.nd rfl (Or.inl rfl) (pe_f c_value_of hr pass0 (pa_cons (pe_fld (pv 1) rfl) (pa_cons (pe_fld (pv 0) rfl) pa_nil))))
  (pss_cons (ps_if (pt_cmpR op_lt (pv 2) pe_int (nomark _)) (pss_one (ps_raise rfl (takes_of rfl rfl rfl rfl) (pmk_Gone R hr (mono_cons mono_c mono_nil) (pa_cons pe_int pa_nil)))) pss_nil)
  (pss_cons (ps_if (pt_cmpR op_gt (pv 2) (pe_gi T.i_MOST_STEPS) (nomark _)) (pss_one (ps_raise rfl (takes_of rfl rfl rfl rfl) (pmk_Gone R hr (mono_cons mono_c mono_nil) (pa_cons pe_int pa_nil)))) pss_nil)
  (pss_cons (ps_expr (pe_bm PySem.F.plainAttrs_list PySem.F.slot_list_append PySem.F.type_list_append mt_append (pe_fld (pv 0) rfl) (pa_cons (pv 2) pa_nil)))
  (pss_one (ps_expr (pe_f c_knit_parts hr passR (pa_cons (pv 0) (pa_cons (pv 1) (pa_cons (pe_fld (pv 1) rfl) pa_nil)))))))))), ?_⟩
  obtain ⟨dx, sz, st, dn, wd, ds, h1, h2, h3, h4, h5, h6, h7, h8, h9, h10⟩ := hS.ex
  obtain ⟨px, la, ca, ra, pa, as, rs, us, p1, p2, p3, p4, p5, p6, p7, p8⟩ := hP.ex
  have s0 : Same F0 H := hS.s0.trans hS.s1
  refine ⟨_, rfl, p, _, px, _, _, rfl, s0 _ _ p1, T.cPattern, T.nPattern_cast, rfl, _, rfl, wk, _, dx, _, _, rfl, h1, T.cWork, T.nWork_size, rfl, ca, sz, q.cast, v, rfl, s0 _ _ p4, SqL.of (hS.s1 _ _ h3), hF.cast.1, hF.cast.2, fun H1 s1 => ?_⟩
  have S1 := hS.grow s1
  unfold knit0 at hQ
  refine ⟨_, rfl, _, _, rfl, rfl, _, rfl, ?_⟩
  by_cases c1 : Vbktaa.value v q.cast < 1
  · rw [if_pos c1] at hQ
    exact if_true_of (decide_eq_true c1) ⟨_, rfl, GoesW.at_ (hQ [] rfl) S1⟩
  · rw [if_neg c1] at hQ
    refine if_false_of (decide_eq_false c1) ⟨_, rfl, _, _, rfl, rfl, _, rfl, ?_⟩
    by_cases c2 : (1500 : Int) < Vbktaa.value v q.cast
    · rw [if_pos c2] at hQ
      exact if_true_of (decide_eq_true c2) ⟨_, rfl, GoesW.at_ (hQ [] rfl) S1⟩
    · rw [if_neg c2] at hQ
      refine if_false_of (decide_eq_false c2) ?_
      obtain ⟨n, hn⟩ : ∃ n : Nat, Vbktaa.value v q.cast = (n : Int) := ⟨(Vbktaa.value v q.cast).toNat, by omega⟩
      rw [hn, Int.toNat_natCast] at hQ
      rw [hn]
      refine ⟨_, rfl, wk, _, dx, _, _, rfl, s1 _ _ h1, T.cWork, T.nWork_widths, rfl, .inl ⟨rfl, _, SqL.of (s1 _ _ h8)⟩, _, rfl, wd, _, _, rfl, rfl, s1 _ _ h8, by decide, ?_⟩
      have S2 := S1.widen (n := n) (s1 _ _ h1)
      have s02 := S2.s0.trans S2.s1
      refine ⟨_, rfl, _, rfl, _, rfl, p, _, px, _, _, rfl, s02 _ _ p1, T.cPattern, T.nPattern_parts, rfl, F0, _, wk, p, pa, us, q.parts, q, rows, FUEL, v, n, ⟨n, [], 1500⟩, rfl, ⟨⟨_, rfl, S2⟩, rfl, by show 0 + 1500 ≤ 1500; decide⟩, hP, hF.rowg, p7, p8, hF.parts, ⟨by decide, fun _ => by show 3 * 1500 + 1 ≤ 9100; decide⟩, hQ⟩
end
end Kn
namespace Kn
open PySem PySem.Spec PyProof.Rows L2
open Vbktaa (Form Size Item Items Part Parts Piece made uses knitPart knitParts knitTimes FUEL)
section
variable {P : Program} {w : World} {K : PySem.W.Frag} {mg : Str → Option Value} {base : Heap}
/-! ### Work.__init__ -/
def spWInit (K : PySem.W.Frag) : Sp := fun vs H Q _ => ∃ (x dx b : Addr), vs = [.ref x, .ref b] ∧ H x = some (.ins (He.ga K "Work") dx []) ∧
  ∀ (H' : Hp) (st dn wd : Addr), (∀ c o, c ≠ x → H c = some o → H' c = some o) → H st = none → H dn = none → H wd = none → dn ≠ wd → st ≠ dn → st ≠ wd → H' x = some (.ins (He.ga K "Work") dx (workF b 1500 (-1) 0 0 st dn wd)) →
    H' st = some (.lst []) → H' dn = some (.lst []) → H' wd = some (.lst []) → Q .non H'
theorem sc_Work_init : FnScope ["self", "size"] ["self", "size"] (defScope s_Work_init) := ⟨rfl, rfl, rfl, by decide +kernel, rfl, by decide +kernel, by decide +kernel⟩
theorem ok_Work_init (T : Txt K mg) (D : DefM K (He.ga K "Work") "__init__" "Work.__init__" s_Work_init) : CalM P w K mg base CX0 1 (He.ma K (He.ga K "Work") "__init__") ["self", "size"] (spWInit K) := by
  have sc := sc_Work_init
  refine CalM.mk' D sc (fun _ _ _ _ _ _ us hl => match us, hl with | [_, _], _ => rfl) (fun vs H Q E h => ?_) (fun cdv A outer s H vs Q E hr h => ?_)
  · obtain ⟨_, _, _, rfl, _⟩ := h; rfl
  obtain ⟨p, dx, b, rfl, hp, k⟩ := h
  refine ⟨_, PSs.nox (pss_cons (ps_fld (pv 0) (pv 1) rfl)
  (pss_cons (ps_fld (pv 0) (pe_gi T.i_MOST_STEPS) rfl)
  (pss_cons (ps_fld (pv 0) (pe_gi T.i_NO_ROW) rfl)
  (pss_cons (ps_fld (pv 0) pe_int rfl)
  (pss_cons (ps_fld (pv 0) pe_int rfl)
  (pss_cons (ps_fld (pv 0) (pe_lst pa_nil) rfl)
  (pss_cons (ps_fld (pv 0) (pe_lst pa_nil) rfl)
  (pss_one (ps_fld (pv 0) (pe_lst pa_nil) rfl))))))))), ?_⟩
  refine ⟨_, rfl, _, rfl, p, _, dx, _, rfl, hp, T.cWork, T.nWork_size, by show 0 < 1000; decide, ?_⟩
  refine ⟨_, rfl, p, _, dx, _, rfl, upd_same, T.cWork, T.nWork_steps, by show 1 < 1000; decide, ?_⟩
  refine ⟨_, rfl, p, _, dx, _, rfl, upd_same, T.cWork, T.nWork_row, by show 2 < 1000; decide, ?_⟩
  refine ⟨_, rfl, p, _, dx, _, rfl, upd_same, T.cWork, T.nWork_left, by show 3 < 1000; decide, ?_⟩
  refine ⟨_, rfl, p, _, dx, _, rfl, upd_same, T.cWork, T.nWork_fresh, by show 4 < 1000; decide, ?_⟩
  refine ⟨small' (by decide), fun st hst => ⟨_, rfl, p, _, dx, _, rfl, put_at hst upd_same, T.cWork, T.nWork_stitches, by show 5 < 1000; decide, ?_⟩⟩
  refine ⟨small' (by decide), fun dn hdn => ⟨_, rfl, p, _, dx, _, rfl, put_at hdn upd_same, T.cWork, T.nWork_done, by show 6 < 1000; decide, ?_⟩⟩
  refine ⟨small' (by decide), fun wd hwd => ⟨_, rfl, p, _, dx, _, rfl, put_at hwd upd_same, T.cWork, T.nWork_widths, by show 7 < 1000; decide, ?_⟩⟩
  have n1 : st ≠ p := fun e => by rw [e, upd_same] at hst; cases hst
  have n2 : dn ≠ p := fun e => by rw [e, upd_same] at hdn; cases hdn
  have n3 : wd ≠ p := fun e => by rw [e, upd_same] at hwd; cases hwd
  rw [upd_ne n1, upd_ne n1, upd_ne n1, upd_ne n1, upd_ne n1] at hst
  rw [upd_ne n2] at hdn
  have m1 : dn ≠ st := fun e => by rw [e, upd_same] at hdn; cases hdn
  rw [upd_ne m1, upd_ne n2, upd_ne n2, upd_ne n2, upd_ne n2, upd_ne n2] at hdn
  rw [upd_ne n3] at hwd
  have m2 : wd ≠ dn := fun e => by rw [e, upd_same] at hwd; cases hwd
  rw [upd_ne m2, upd_ne n3] at hwd
  have m3 : wd ≠ st := fun e => by rw [e, upd_same] at hwd; cases hwd
  rw [upd_ne m3, upd_ne n3, upd_ne n3, upd_ne n3, upd_ne n3, upd_ne n3] at hwd
  refine k _ st dn wd (fun c o nc hc => ?_) hst hdn hwd (Ne.symm m2) (Ne.symm m1) (Ne.symm m3) upd_same ?_ ?_ ?_
  · rw [upd_ne nc, upd_ne (ne_of_none hc hwd), upd_ne nc, upd_ne (ne_of_none hc hdn), upd_ne nc, upd_ne (ne_of_none hc hst), upd_ne nc, upd_ne nc, upd_ne nc, upd_ne nc, upd_ne nc]
    exact hc
  · rw [upd_ne n1, upd_ne (Ne.symm m3), upd_ne n1, upd_ne (Ne.symm m1), upd_ne n1, upd_same]
  · rw [upd_ne n2, upd_ne (Ne.symm m2), upd_ne n2, upd_same]
  · rw [upd_ne n3, upd_same]
/-! ### knit -/
def KnitQ (K : PySem.W.Frag) (H : Hp) (q : Vbktaa.Pattern) (v : List Int) (Q : VK) : Prop := match knit0 q v with
  | .error w => ∀ (H' F' : Hp) (t wk : Addr) (r : Vbktaa.Run) (done : List (Nat × List Nat)) (ws : List Nat), WS K H F' H' wk v r (rowI w) done ws → done.length = w.done → H' t = some (.tup [.ref wk, .int (w.why : Int)]) → Q (.ref t) H'
  | .ok x => ∀ (H' F' : Hp) (t wk : Addr), WP K H F' H' wk v (Vbktaa.value v q.cast).toNat x → H' t = some (.tup [.ref wk, .int 0]) → Q (.ref t) H'
def spKnit (K : PySem.W.Frag) : Sp := fun vs H Q _ => ∃ (p b : Addr) (q : Vbktaa.Pattern) (rows : List (List Nat × Items)) (v : List Int), vs = [.ref p, .ref b] ∧ H b = some (.lst (v.map V.int)) ∧ PatAt K H p q rows ∧ Fits q rows v.length ∧ KnitQ K H q v Q
theorem sc_knit : FnScope ["pattern", "size", "work", "end"] ["pattern", "size"] (defScope s_knit) := ⟨rfl, rfl, rfl, by decide +kernel, rfl, by decide +kernel, by decide +kernel⟩
theorem ok_knit (T : Txt K mg) (D : Def K mg "knit" s_knit) (m_init : CalM P w K mg base CX0 1 (He.ma K (He.ga K "Work") "__init__") ["self", "size"] (spWInit K)) (c_knit_all : Cal P w K mg base (L2.CX P w) 18 "knit_all" ["work", "pattern"] (spKnitAll K)) :
    Cal P w K mg base (L2.CX P w) 19 "knit" ["pattern", "size"] (spKnit K) := by
  have sc := sc_knit
  refine Cal.mk' D sc (fun _ _ _ _ _ _ us hl => match us, hl with | [_, _], _ => rfl) (fun vs H Q E h => ?_) (fun f cdv A outer s H vs Q E hr h => ?_)
  · obtain ⟨_, _, _, _, _, rfl, _⟩ := h; rfl
  obtain ⟨p, b, q, rows, v, rfl, hb, hP, hF, hQ⟩ := h
  refine ⟨_, (pss_cons (ps_set (i := 2) sc.nd rfl (Or.inl rfl) (pe_mk T.kWork m_init hr T.gWork pass0 (pa_cons (pv 1) pa_nil)))
  (pss_cons (ps_try_as (i := 3) rfl rfl sc.nd rfl rfl ⟨rfl, by decide, Or.inl T.gGone⟩ takes0 (fun W pn xe tk _ => (pss_one (ps_expr (pe_fS c_knit_all hr (fun σ => passAt tk σ) (by exact (pa_cons (pv 2) (pa_cons (pv 0) pa_nil))))))) (fun a oe cls d pn hz hf => (pss_one (ps_ret (pe_tup (pa_cons (pv 2) (pa_cons (pe_xf T.xfGone T.nGone_why hz hf (pv 3)) pa_nil)))))))
  (pss_one (ps_ret (pe_tup (pa_cons (pv 2) (pa_cons pe_int pa_nil))))))), ?_⟩
  refine ⟨_, rfl, fun wk dx hwk hdx ndx => ⟨wk, dx, b, rfl, upd_same, fun H1 st dn wd keep nst ndn nwd m1 m2 m3 k1 k2 k3 k4 => ⟨rfl, ?_⟩⟩⟩
  have fr : ∀ {c : Addr}, upd (upd H dx (.own wk)) wk (.ins (He.ga K "Work") dx []) c = none → H c = none := fun {c} hc => by
    by_cases e : c = wk
    · rw [e, upd_same] at hc; cases hc
    · rw [upd_ne e] at hc
      by_cases e2 : c = dx
      · rw [e2, upd_same] at hc; cases hc
      · rw [upd_ne e2] at hc; exact hc
  have s1 : Same H H1 := fun c o hc => by
    have nc : c ≠ wk := ne_of_none hc hwk
    refine keep c o nc ?_
    rw [upd_ne nc, upd_ne (ne_of_none hc hdx)]; exact hc
  have hst := fr nst
  have S : WS K H (upd H st (.lst [])) H1 wk v ⟨0, [], 1500⟩ (-1) [] [] := by
    have nws : wk ≠ st := fun e => by rw [e, k2] at k1; cases k1
    refine ⟨⟨dx, b, st, dn, wd, [], k1, by rw [upd_ne nws]; exact hwk, put_at hst hb, upd_same, k3, by rw [upd_ne (Ne.symm m2)]; exact fr ndn, .nil, k4, by rw [upd_ne (Ne.symm m3)]; exact fr nwd, m1⟩, by decide, same_new hst, fun c o hc => ?_⟩
    by_cases e : c = st
    · rw [e, upd_same] at hc
      rw [e, ← hc]; exact k2
    · rw [upd_ne e] at hc; exact s1 _ _ hc
  refine ⟨_, rfl, _, rfl, H, _, wk, p, q, rows, v, rfl, S, hP, hF, ?_⟩
  unfold KnitQ at hQ
  cases ek : knit0 q v with
  | error w =>
    rw [ek] at hQ
    intro done hd d F' H' r' ws' W' hx
    refine ⟨true, T.eGone, fun _ x hx0 => ?_, fun z => absurd z (by decide)⟩
    refine ⟨_, rfl, _, rfl, rfl, rfl, d, _, _, rfl, hx, rfl, small' (by show 2 ≤ 16000000; decide), fun t ht => ?_⟩
    exact hQ _ _ t wk r' done ws' (W'.grow (same_new ht)) hd upd_same
  | ok x =>
    rw [ek] at hQ
    intro H' F' W'
    refine ⟨_, rfl, small' (by show 2 ≤ 16000000; decide), fun t ht => ?_⟩
    obtain ⟨r, hr1, hr2⟩ := W'.ex
    exact hQ _ _ t wk ⟨⟨r, hr1, hr2.grow (same_new ht)⟩, W'.wid, W'.few⟩ upd_same
end
end Kn
namespace Kn
open PySem PySem.Spec PyProof.Rows L2
open Vbktaa (Form Size Item Items)
section
variable {P : Program} {w : World} {K : PySem.W.Frag} {mg : Str → Option Value} {base : Heap}
/-! ### joined -/
def Words (ws : List (List Nat)) : Prop := (∀ w ∈ ws, w.length ≤ 20) ∧ ws.length ≤ 100000
def spJoined : Sp := fun vs H Q _ => ∃ (a : Addr) (ws : List (List Nat)), vs = [.ref a] ∧ TxtsAt H a ws ∧ Words ws ∧ New H (VT (Vbktaa.joined 32 ws)) Q
theorem sc_joined : FnScope ["words", "found", "number", "word"] ["words"] (defScope s_joined) := ⟨rfl, rfl, rfl, by decide +kernel, rfl, by decide +kernel, by decide +kernel⟩
theorem ok_joined (T : Txt K mg) (D : Def K mg "joined" s_joined) : Cal P w K mg base CX0 1 "joined" ["words"] spJoined := by
  have sc := sc_joined
  refine Cal.mk' D sc (fun _ _ _ _ _ _ us hl => match us, hl with | [_], _ => rfl) (fun vs H Q E h => ?_) (fun f cdv A outer s H vs Q E hr h => ?_)
  · obtain ⟨_, _, rfl, _⟩ := h; rfl
  obtain ⟨a, ws, rfl, ⟨as, ha, hT⟩, ⟨hw1, hw2⟩, k⟩ := h
  have hlen := paired_len hT
  refine ⟨_, PSs.nox (pss_cons (ps_set (i := 1) sc.nd rfl (Or.inl rfl) (pe_lst pa_nil))
  (pss_cons (ps_for PassesOwn.never rfl (pi_enum (by rfl) T.f_enumerate (pa_cons (pv 0) pa_nil)) (pg_tup rfl (pgs_cons (pg_name (i := 2) sc.nd rfl (Or.inl rfl)) (pgs_cons (pg_name (i := 3) sc.nd rfl (Or.inl rfl)) pgs_nil))) (pss_cons (ps_if (pt_cmpR op_gt (pv 2) pe_int (nomark _)) (pss_one (ps_expr (pe_bm PySem.F.plainAttrs_list PySem.F.slot_list_append PySem.F.type_list_append mt_append (pv 1) (pa_cons (pe_gi T.i_BLANK) pa_nil)))) pss_nil)
    (pss_one (ps_expr (pe_bm PySem.F.plainAttrs_list PySem.F.slot_list_extend PySem.F.type_list_extend mt_extend (pv 1) (pa_cons (pv 3) pa_nil))))))
  (pss_one (ps_ret (pv 1))))), ?_⟩
  refine ⟨small' (by decide), fun p hp => ?_⟩
  have s0 : Same H (upd H p (.lst [])) := same_new hp
  refine ⟨_, rfl, a, _, rfl, SqL.of (s0 _ _ ha), for_it walk_enum (fun i σ H' => ∃ (v2 v3 : Option V), σ = [some (.ref a), some (.ref p), v2, v3] ∧ Same H H' ∧ H' p = some (.lst (VT (Vbktaa.joined 32 (ws.take i)))))
    ⟨none, none, rfl, s0, upd_same⟩ (fun i σ H' _ ⟨_, _, _, s1, _⟩ => SqL.of (s1 _ _ ha)) ?_ ?_⟩
  · rintro i x σ H1 H2 hi ⟨v2, v3, rfl, s1, hj⟩ ⟨q, x1, x2, rfl, hq, rfl, hx1, hx2⟩
    obtain ⟨b, hb, rfl⟩ := map_get hx2
    obtain ⟨wd, hwd, hbw⟩ := paired_get hT hb
    have ex1 := Option.some.inj hx1
    subst ex1
    have hiw : i < ws.length := by rw [List.length_map, hlen] at hi; exact hi
    have s2 : Same H (upd H1 q (.tup [.int (i : Nat), .ref b])) := same_put s1 (s1.free hq)
    have hjl : (Vbktaa.joined 32 (ws.take i)).length ≤ 21 * i := by
      have h1 := joined_len 32 20 (ws.take i) fun w hw => hw1 w (List.mem_of_mem_take hw)
      rw [List.length_take] at h1
      have : min i ws.length ≤ i := Nat.min_le_left _ _
      exact Nat.le_trans h1 (Nat.mul_le_mul_left _ this)
    have hwl := hw1 wd (List.mem_of_getElem? hwd)
    have ej : Vbktaa.joined 32 (ws.take (i + 1)) = if ws.take i = [] then wd else Vbktaa.joined 32 (ws.take i) ++ 32 :: wd := by
      rw [take_more hwd]; exact joined_snoc 32 wd _
    refine ⟨q, _, rfl, SqT.of upd_same, rfl, _, _, rfl, _, _, rfl, rfl, ?_⟩
    refine ⟨_, rfl, _, _, rfl, rfl, _, rfl, ?_⟩
    by_cases c : i = 0
    · subst c
      refine if_false_of (decide_eq_false (by decide)) ?_
      have ej' : Vbktaa.joined 32 (ws.take 1) = wd := by rw [ej]; rfl
      refine ⟨_, rfl, .inl ⟨rfl, _, SqL.of (put_at hq hj)⟩, _, rfl, p, b, _, _, rfl, rfl, put_at hq hj, s2 _ _ hbw, ?_, ?_⟩
      · rw [VT_len, VT_len]
        refine small' ?_
        omega
      · exact ⟨_, _, rfl, same_put s2 hp, by rw [upd_same, ej']; rfl⟩
    · refine if_true_of (decide_eq_true (by omega)) ?_
      have ne : ws.take i ≠ [] := fun e => by
        have := congrArg List.length e
        rw [List.length_take, List.length_nil] at this
        omega
      rw [if_neg ne] at ej
      refine ⟨_, rfl, .inl ⟨rfl, _, SqL.of (put_at hq hj)⟩, p, _, _, rfl, rfl, put_at hq hj, ?_, ?_⟩
      · rw [VT_len]
        refine small ?_
        omega
      have s3 := same_put (o := .lst (VT (Vbktaa.joined 32 (ws.take i)) ++ [.int 32])) s2 hp
      refine ⟨_, rfl, .inl ⟨rfl, _, SqL.of upd_same⟩, _, rfl, p, b, _, _, rfl, rfl, upd_same, s3 _ _ hbw, ?_, ?_⟩
      · rw [List.length_append, VT_len, VT_len, List.length_singleton]
        refine small' ?_
        omega
      · refine ⟨_, _, rfl, same_put s3 hp, ?_⟩
        rw [upd_same, ej, VT_app]
        show some (HO.lst ((VT _ ++ [V.int 32]) ++ VT wd)) = some (HO.lst (VT _ ++ VT (32 :: wd)))
        rw [List.append_assoc]; rfl
  · rintro σ H1 ⟨v2, v3, rfl, s1, hj⟩
    rw [List.length_map, hlen, take_all] at hj
    exact ⟨_, rfl, k _ _ s1 hp hj⟩
/-! ### line_of -/
def spLineOf : Sp := fun vs H Q _ => ∃ (a : Addr) (ws : List (List Nat)), vs = [.ref a] ∧ TxtsAt H a ws ∧ Words ws ∧ New H (VT (Vbktaa.line ws)) Q
theorem sc_line_of : FnScope ["words"] ["words"] (defScope s_line_of) := ⟨rfl, rfl, rfl, by decide +kernel, rfl, by decide +kernel, by decide +kernel⟩
theorem ok_line_of (T : Txt K mg) (D : Def K mg "line_of" s_line_of) (c_joined : Cal P w K mg base CX0 1 "joined" ["words"] spJoined) : Cal P w K mg base CX0 2 "line_of" ["words"] spLineOf := by
  have sc := sc_line_of
  refine Cal.mk' D sc (fun _ _ _ _ _ _ us hl => match us, hl with | [_], _ => rfl) (fun vs H Q E h => ?_) (fun f cdv A outer s H vs Q E hr h => ?_)
  · obtain ⟨_, _, rfl, _⟩ := h; rfl
  obtain ⟨a, ws, rfl, hT, hW, k⟩ := h
  refine ⟨_, PSs.nox (pss_one (ps_ret (pe_op op_cat (pe_f c_joined hr pass0 (pa_cons (pv 0) pa_nil)) (pe_lst (pa_cons (pe_gi T.i_LINE_END) pa_nil))))), ?_⟩
  refine ⟨_, rfl, a, ws, rfl, hT, hW, fun H1 p s1 hp hp1 => ?_⟩
  have hl := joined_len 32 20 ws hW.1
  have hl2 := hW.2
  refine ⟨small' (by show 1 ≤ 16000000; decide), fun q hq => ⟨p, q, _, _, rfl, rfl, put_at hq hp1, upd_same, ?_, fun r hr0 => ?_⟩⟩
  · rw [VT_len]
    refine small' ?_
    show _ + 1 ≤ _
    omega
  · refine k _ r (same_put (same_put s1 (s1.free hq)) ?_) ?_ ?_
    · have : r ≠ q := fun e => by rw [e, upd_same] at hr0; cases hr0
      rw [upd_ne this] at hr0
      exact s1.free hr0
    · have : r ≠ q := fun e => by rw [e, upd_same] at hr0; cases hr0
      rw [upd_ne this] at hr0
      exact s1.free hr0
    · rw [upd_same]
      show some (HO.lst (VT _ ++ VT [10])) = _
      rw [← VT_app]; rfl
/-- a new list of new texts is handed back -/
def NewT (H : Hp) (ws : List (List Nat)) (Q : VK) : Prop := ∀ (H' : Hp) (p : Addr), Same H H' → H p = none → TxtsAt (Off H H') p ws → Q (.ref p) H'
/-! ### times_shown -/
structure FormG (K : PySem.W.Frag) (H : Hp) (l b : Addr) (ls : List Nat) (f : Form) : Prop where
  form : FormAt H b f
  lets : H l = some (.lst (VT ls))
  len : f.l.length = ls.length
  few : ls.length ≤ 2
  sm : SmallF f
def spTimesShown (K : PySem.W.Frag) : Sp := fun vs H Q _ => ∃ (b l : Addr) (f : Form) (ls : List Nat), vs = [.ref b, .ref l] ∧ FormG K H l b ls f ∧ NewT H (Vbktaa.timesWords (Kn.lets ls) f) Q
theorem times_words (ls : List (List Nat)) (f : Form) : Vbktaa.timesWords ls f = if oneF f = true then [] else [Vbktaa.shownForm ls f] := by
  unfold Vbktaa.timesWords
  by_cases c : f.c = 1 ∧ f.l.all (fun a => a == 0) = true
  · rw [if_pos c, if_pos]
    unfold oneF
    simp [c.1, c.2]
  · rw [if_neg c, if_neg]
    intro e
    unfold oneF at e
    simp at e c
    obtain ⟨x, hx, hn⟩ := c e.1
    exact hn (e.2 x hx)
theorem sc_times_shown : FnScope ["form", "letters"] ["form", "letters"] (defScope s_times_shown) := ⟨rfl, rfl, rfl, by decide +kernel, rfl, by decide +kernel, by decide +kernel⟩
theorem ok_times_shown (T : Txt K mg) (D : Def K mg "times_shown" s_times_shown) (c_is_one : Cal P w K mg base CX0 1 "is_one" ["form"] (spOne K)) (c_form_shown : Cal P w K mg base CX0 2 "form_shown" ["form", "letters"] (spFormShown K)) :
    Cal P w K mg base CX0 3 "times_shown" ["form", "letters"] (spTimesShown K) := by
  have sc := sc_times_shown
  refine Cal.mk' D sc (fun _ _ _ _ _ _ us hl => match us, hl with | [_, _], _ => rfl) (fun vs H Q E h => ?_) (fun f cdv A outer s H vs Q E hr h => ?_)
  · obtain ⟨_, _, _, _, rfl, _⟩ := h; rfl
  obtain ⟨b, l, fm, ls, rfl, hF, k⟩ := h
  refine ⟨_, PSs.nox (pss_cons (ps_if (pt_val (pe_f c_is_one hr pass0 (pa_cons (pv 0) pa_nil))) (pss_one (ps_ret (pe_lst pa_nil))) pss_nil)
  (pss_one (ps_ret (pe_lst (pa_cons (pe_f c_form_shown hr pass0 (pa_cons (pv 0) (pa_cons (pv 1) pa_nil))) pa_nil))))), ?_⟩
  have := hF.len
  have := hF.few
  rw [times_words] at k
  refine ⟨_, rfl, b, fm, rfl, hF.form, by omega, fun H1 s1 => ⟨_, rfl, ?_⟩⟩
  by_cases c : oneF fm = true
  · refine if_true_of c ⟨small' (by decide), fun p hp => ?_⟩
    rw [if_pos c] at k
    exact k _ p (same_put s1 (s1.free hp)) (s1.free hp) ⟨[], off_at (s1.free hp) upd_same, .nil⟩
  · refine if_false_of (by simpa using c) ?_
    rw [if_neg c] at k
    refine ⟨_, rfl, _, rfl, b, l, fm, ls, rfl, hF.form.mono s1, SqL.of (s1 _ _ hF.lets), hF.len, by omega, hF.sm, fun H2 p s2 hp hp2 => ?_⟩
    refine ⟨small' (by show 1 ≤ 16000000; decide), fun q hq => ?_⟩
    have s12 := s1.trans s2
    exact k _ q (same_put s12 (s12.free hq)) (s12.free hq) ⟨[p], off_at (s12.free hq) upd_same, .cons (off_at (s1.free hp) (put_at hq hp2)) .nil⟩
end
end Kn
namespace Kn
open PySem PySem.Spec PyProof.Rows L2
open Vbktaa (Form Size Item Items itemWords itemsWords timesWords NAMES)
theorem txtl_app {H : Hp} {bs : List Addr} {us : List (List Nat)} (h : TxtL H bs us) : ∀ {as : List Addr} {ws : List (List Nat)}, TxtL H as ws → TxtL H (as ++ bs) (ws ++ us)
  | _, _, .nil => h
  | _, _, .cons r t => .cons r (txtl_app h t)
theorem off_off {B H : Hp} : Same (Off B H) H := off_same
/-- a list that texts are gathered in: all but it stands in the frame -/
structure Coll (B F H : Hp) (o : Addr) (ws : List (List Nat)) : Prop where
  s0 : Same B F
  s1 : Same F H
  no : F o = none
  ex : ∃ as : List Addr, H o = some (.lst (as.map V.ref)) ∧ TxtL (Off B F) as ws
section
variable {B F H H' : Hp} {o : Addr} {ws us : List (List Nat)}
theorem Coll.new {B H H' : Hp} {o : Addr} {ws : List (List Nat)} {as : List Addr} (s : Same B H) (n : H o = none) (e : H' = upd H o (.lst (as.map V.ref))) (h : TxtL (Off B H) as ws) : Coll B H H' o ws := by
  subst e
  exact ⟨s, same_new n, n, as, upd_same, h⟩
theorem Coll.all (h : Coll B F H o ws) : Same B H := h.s0.trans h.s1
theorem Coll.cell (h : Coll B F H o ws) : ∃ as : List Addr, H o = some (.lst (as.map V.ref)) := by
  obtain ⟨as, h1, _⟩ := h.ex
  exact ⟨as, h1⟩
theorem Coll.up (h : Coll B F H o ws) (s : Same H H') : Coll B (Grow F H H') H' o ws := by
  obtain ⟨as, h1, h2⟩ := h.ex
  have g := grow_same (H' := H') h.s1
  exact ⟨h.s0.trans g, grow_in h.s1 s, grow_none h1 h.no, as, s _ _ h1, h2.mono (off_up g)⟩
theorem Coll.off (h : Coll B F H o ws) : Same (Off H H') (Off B (Grow F H H')) := fun b u q => by
  obtain ⟨q1, q2⟩ := off_some q
  exact off_at (h.all.free q1) (by rw [grow_new q1]; exact q2)
theorem Coll.put (h : Coll B F H o ws) {as bs : List Addr} {us : List (List Nat)} (h1 : H o = some (.lst (as.map V.ref))) (hu : TxtL (Off B F) bs us) : Coll B F (upd H o (.lst (as.map V.ref ++ bs.map V.ref))) o (ws ++ us) := by
  obtain ⟨as', h1', h2⟩ := h.ex
  have e : as'.map V.ref = as.map V.ref := by
    rw [h1] at h1'
    exact (HO.lst.inj (Option.some.inj h1')).symm
  refine ⟨h.s0, same_put h.s1 h.no, h.no, as' ++ bs, ?_, txtl_app hu h2⟩
  rw [upd_same, List.map_append, e]
/-- texts that have come with a call are put behind -/
theorem Coll.more (h : Coll B F H o ws) (s : Same H H') {as bs : List Addr} (h1 : H' o = some (.lst (as.map V.ref))) (hu : TxtL (Off H H') bs us) : Coll B (Grow F H H') (upd H' o (.lst (as.map V.ref ++ bs.map V.ref))) o (ws ++ us) :=
  (h.up s).put h1 (hu.mono h.off)
end
/-- a list of texts, all new over H0 -/
def Tx (H0 H : Hp) (p : Addr) (ws : List (List Nat)) : Prop := ∃ as : List Addr, H p = some (.lst (as.map V.ref)) ∧ TxtL (Off H0 H) as ws
theorem Tx.mono {H0 H H' : Hp} {p : Addr} {ws : List (List Nat)} (h : Tx H0 H p ws) (s : Same H H') : Tx H0 H' p ws := by
  obtain ⟨as, h1, h2⟩ := h
  exact ⟨as, s _ _ h1, h2.mono (off_up s)⟩
theorem Tx.got {H0 H H' : Hp} {p : Addr} {ws : List (List Nat)} (h : TxtsAt (Off H H') p ws) (s : Same H0 H) : Tx H0 H' p ws := by
  obtain ⟨as, h1, h2⟩ := h
  exact ⟨as, (off_some h1).2, h2.mono (off_down s)⟩
theorem Tx.coll {B F H : Hp} {o : Addr} {ws : List (List Nat)} (h : Coll B F H o ws) : Tx B H o ws := by
  obtain ⟨as, h1, h2⟩ := h.ex
  exact ⟨as, h1, h2.mono (off_up h.s1)⟩
theorem Tx.new {H0 H : Hp} {p : Addr} {ws : List (List Nat)} (h : Tx H0 H p ws) (n : H0 p = none) : TxtsAt (Off H0 H) p ws := by
  obtain ⟨as, h1, h2⟩ := h
  exact ⟨as, off_at n h1, h2⟩
theorem Tx.plain {H0 H : Hp} {p : Addr} {ws : List (List Nat)} (h : Tx H0 H p ws) : TxtsAt H p ws := by
  obtain ⟨as, h1, h2⟩ := h
  exact ⟨as, h1, h2.mono off_same⟩
theorem Tx.one {H0 H : Hp} {p c : Addr} {t : List Nat} (s : Same H0 H) (n : H0 c = none) (hc : H c = some (.lst (VT t))) (hp : H p = none) : Tx H0 (upd H p (.lst [.ref c])) p [t] :=
  ⟨[c], upd_same, .cons (off_at n (put_at hp hc)) .nil⟩
theorem tx_cat {H0 H : Hp} {p q : Addr} {ws us : List (List Nat)} {Q : VK} (h1 : Tx H0 H p ws) (h2 : Tx H0 H q us) (hz : ws.length + us.length ≤ 16000000) (k : ∀ (r : Addr) (H' : Hp), Same H H' → H r = none → Tx H0 H' r (ws ++ us) → Q (.ref r) H') : rCat (.ref p) (.ref q) H Q := by
  obtain ⟨as, a1, a2⟩ := h1
  obtain ⟨bs, b1, b2⟩ := h2
  have e1 := paired_len a2
  have e2 := paired_len b2
  refine ⟨p, q, _, _, rfl, rfl, a1, b1, small' (by rw [List.length_map, List.length_map]; omega), fun r hr => ?_⟩
  have s : Same H (upd H r (.lst (as.map V.ref ++ bs.map V.ref))) := same_new hr
  exact k r _ s hr ⟨as ++ bs, by rw [upd_same, List.map_append], (txtl_app b2 a2).mono (off_up s)⟩
theorem words_ref {as : List Addr} : (as.map V.ref).length = as.length := List.length_map _
section
variable {P : Program} {w : World} {K : PySem.W.Frag} {mg : Str → Option Value} {base : Heap}
/-! ### item_words -/
def spItemW (K : PySem.W.Frag) (d : Nat) : Sp := fun vs H Q _ => ∃ (v : V) (l : Addr) (i : Item) (ls : List Nat), vs = [v, .ref l] ∧ ItemAt H i v ∧ H l = some (.lst (VT ls)) ∧ ls.length ≤ 2 ∧ GoodI ls.length i ∧ DeepI i d ∧ wI i ≤ 80 ∧ NewT H (itemWords (lets ls) i) Q
def spItemW0 (K : PySem.W.Frag) : Nat → Sp
  | 0 => fun _ _ _ _ => False
  | d + 1 => spItemW K d
theorem itemsWords_cons (ls : List (List Nat)) (i : Item) (r : Items) : itemsWords ls (.cons i r) = itemWords ls i ++ itemsWords ls r := by rw [itemsWords]
theorem itemsWords_nil (ls : List (List Nat)) : itemsWords ls .nil = [] := by rw [itemsWords]
theorem wI_group (l : Items) (t : Form) : wI (.group l t) = wIs l + 3 := by rw [wI]
theorem wI_fill (l : Items) (t : Form) : wI (.fill l t) = wIs l + 4 := by rw [wI]
theorem wIs_cons (i : Item) (r : Items) : wIs (.cons i r) = wI i + wIs r := by rw [wIs]
theorem times_few (ls : List (List Nat)) (t : Form) : (timesWords ls t).length ≤ 1 := by
  unfold timesWords
  by_cases c : t.c = 1 ∧ t.l.all (fun a => a == 0) = true
  · rw [if_pos c]; exact Nat.zero_le _
  · rw [if_neg c]; exact Nat.le_refl _
mutual
theorem words_few (ls : List (List Nat)) : ∀ i : Item, (itemWords ls i).length ≤ wI i
  | .st s t => by
    rw [itemWords, wI, List.length_cons]
    have := times_few ls t
    omega
  | .group l t => by
    rw [itemWords, wI_group]
    have := times_few ls t
    have := wordss_few ls l
    simp only [List.length_cons, List.length_append]
    omega
  | .fill l t => by
    rw [itemWords, wI_fill]
    have := wordss_few ls l
    simp only [List.length_cons, List.length_append, List.length_nil]
    omega
theorem wordss_few (ls : List (List Nat)) : ∀ l : Items, (itemsWords ls l).length ≤ wIs l
  | .nil => by rw [itemsWords_nil]; exact Nat.zero_le _
  | .cons i r => by
    rw [itemsWords_cons, wIs_cons, List.length_append]
    have := words_few ls i
    have := wordss_few ls r
    omega
end
theorem form_short {ls : List Nat} {t : Form} (h2 : ls.length ≤ 2) (h : GoodF ls.length t) : (Vbktaa.shownForm (lets ls) t).length ≤ 20 := by
  have := shownForm_len (f := t) (ls := ls) h.2 h.1
  omega
theorem times_short {ls : List Nat} {t : Form} (h2 : ls.length ≤ 2) (h : GoodF ls.length t) : ∀ w ∈ timesWords (lets ls) t, w.length ≤ 20 := fun w hw => by
  unfold timesWords at hw
  by_cases c : t.c = 1 ∧ t.l.all (fun a => a == 0) = true
  · rw [if_pos c] at hw; cases hw
  · rw [if_neg c] at hw
    rw [List.mem_singleton.mp hw]; exact form_short h2 h
mutual
theorem words_short {ls : List Nat} (h2 : ls.length ≤ 2) : ∀ (i : Item), GoodI ls.length i → ∀ w ∈ itemWords (lets ls) i, w.length ≤ 20
  | .st s t, h, w, hw => by
    rw [itemWords] at hw
    rcases List.mem_cons.mp hw with e | m
    · have h8 : s < 8 := h.1
      have : ∀ s < 8, (NAMES.getD s []).length ≤ 20 := by decide
      rw [e]; exact this s h8
    · exact times_short h2 h.2 w m
  | .group l t, h, w, hw => by
    rw [itemWords] at hw
    rcases List.mem_cons.mp hw with e | m
    · rw [e]; decide
    · rcases List.mem_append.mp m with m | m
      · exact wordss_short h2 l h.1 w m
      · rcases List.mem_cons.mp m with e | m
        · rw [e]; decide
        · exact times_short h2 h.2 w m
  | .fill l t, h, w, hw => by
    rw [itemWords] at hw
    rcases List.mem_cons.mp hw with e | m
    · rw [e]; decide
    · rcases List.mem_append.mp m with m | m
      · exact wordss_short h2 l h.1 w m
      · simp only [List.mem_cons, List.not_mem_nil, or_false] at m
        rcases m with e | e | e
        · rw [e]; decide
        · rw [e]; decide
        · rw [e]; exact form_short h2 h.2
theorem wordss_short {ls : List Nat} (h2 : ls.length ≤ 2) : ∀ (l : Items), GoodIs ls.length l → ∀ w ∈ itemsWords (lets ls) l, w.length ≤ 20
  | .nil, _, w, hw => by rw [itemsWords_nil] at hw; cases hw
  | .cons i r, h, w, hw => by
    rw [itemsWords_cons] at hw
    rcases List.mem_append.mp hw with m | m
    · exact words_short h2 i h.1 w m
    · exact wordss_short h2 r h.2 w m
end
end
end Kn
namespace Kn
open PySem PySem.Spec PyProof.Rows L2
open Vbktaa (Form Size Item Items itemWords itemsWords timesWords NAMES OPEN SHUT BEGIN END)
/-- the words of a bracket -/
def wrapW (so : Int) (ls : List (List Nat)) (ws : List (List Nat)) (f : Form) : List (List Nat) := if so = 1 then OPEN :: (ws ++ (SHUT :: timesWords ls f)) else BEGIN :: (ws ++ [END, Vbktaa.word "to", Vbktaa.shownForm ls f])
theorem wIs_drop : ∀ {l : Items} {k m : Nat}, wIs l ≤ m → wIs (dropI l k) ≤ m
  | .nil, 0, _, h => h
  | .nil, _ + 1, _, h => h
  | .cons i r, 0, _, h => h
  | .cons i r, k + 1, m, h => by
    rw [wIs_cons] at h
    exact wIs_drop (l := r) (k := k) (m := m) (by omega)
section
variable {P : Program} {w : World} {K : PySem.W.Frag} {mg : Str → Option Value} {base : Heap}
theorem sc_item_words : FnScope ["item", "letters", "sort", "inner", "form", "own", "one"] ["item", "letters"] (defScope s_item_words) := ⟨rfl, rfl, rfl, by decide +kernel, rfl, by decide +kernel, by decide +kernel⟩
theorem ok_item_words {k d : Nat} (hk : 3 ≤ k) (T : Txt K mg) (D : Def K mg "item_words" s_item_words) (c_signs_of : Cal P w K mg base CX0 1 "signs_of" ["word"] spSigns) (c_times_shown : Cal P w K mg base CX0 3 "times_shown" ["form", "letters"] (spTimesShown K)) (c_form_shown : Cal P w K mg base CX0 2 "form_shown" ["form", "letters"] (spFormShown K))
    (c_item_words : Cal P w K mg base CX0 k "item_words" ["item", "letters"] (spItemW0 K d)) : Cal P w K mg base CX0 (k + 1) "item_words" ["item", "letters"] (spItemW K d) := by
  have sc := sc_item_words
  refine Cal.mk' D sc (fun _ _ _ _ _ _ us hl => match us, hl with | [_, _], _ => rfl) (fun vs H Q E h => ?_) (fun f cdv A outer s H vs Q E hr h => ?_)
  · obtain ⟨_, _, _, _, rfl, _⟩ := h; rfl
  obtain ⟨v0, l, it, ls, rfl, hIt, hl, h2, hG, hD, hW, kk⟩ := h
  have k1 : 1 ≤ k := by omega
  have k2 : 2 ≤ k := by omega
  obtain ⟨tr, hT, go⟩ : ∃ tr, PSs (cxOf CX0 P w K mg base ["item", "letters", "sort", "inner", "form", "own", "one"] "item_words" (defScope s_item_words) f cdv A outer s H E).nox ((defBody s_item_words).drop 2) tr ∧
      ∀ (x : V) (so : Int) (q b : Addr) (us : List V) (l' : Items) (fm : Form) (e : Nat), (so = 1 ∨ so = 2) → d = e + 1 → H q = some (.lst us) → ItemsAt H l' us → FormAt H b fm → GoodIs ls.length l' → GoodF ls.length fm → DeepIs l' e → wIs l' ≤ 80 → NewT H (wrapW so (lets ls) (itemsWords (lets ls) l') fm) Q →
        tr { nx := fun x H' => Q V.non H', rt := Q } [some x, some (.ref l), some (.int so), some (.ref q), some (.ref b), none, none] H := by
    refine ⟨_, (pss_cons (ps_set (i := 5) sc.nd rfl (Or.inl rfl) (pe_lst pa_nil))
  (pss_cons (ps_for PassesOwn.never rfl (pi_list (pv 3)) (pg_name (i := 6) sc.nd rfl (Or.inl rfl)) (pss_one (ps_expr (pe_bm PySem.F.plainAttrs_list PySem.F.slot_list_extend PySem.F.type_list_extend mt_extend (pv 5) (pa_cons (pe_f c_item_words hr pass0 (pa_cons (pv 6) (pa_cons (pv 1) pa_nil)) (hk := Nat.le_refl _)) pa_nil)))))
  (pss_cons (ps_if (pt_cmpR op_eq (pv 2) (pe_gi T.i_ROUND) (nomark _)) (pss_one (ps_ret (pe_op op_cat (pe_op op_cat (pe_op op_cat (pe_lst (pa_cons (pe_f c_signs_of hr pass0 (pa_cons pe_str pa_nil) (hk := k1)) pa_nil)) (pv 5)) (pe_lst (pa_cons (pe_f c_signs_of hr pass0 (pa_cons pe_str pa_nil) (hk := k1)) pa_nil))) (pe_f c_times_shown hr pass0 (pa_cons (pv 4) (pa_cons (pv 1) pa_nil)) (hk := hk))))) pss_nil)
  (pss_one (ps_ret (pe_op op_cat (pe_op op_cat (pe_lst (pa_cons (pe_f c_signs_of hr pass0 (pa_cons pe_str pa_nil) (hk := k1)) pa_nil)) (pv 5)) (pe_lst (pa_cons (pe_f c_signs_of hr pass0 (pa_cons pe_str pa_nil) (hk := k1)) (pa_cons (pe_f c_signs_of hr pass0 (pa_cons pe_str pa_nil) (hk := k1)) (pa_cons (pe_f c_form_shown hr pass0 (pa_cons (pv 4) (pa_cons (pv 1) pa_nil)) (hk := k2)) pa_nil)))))))))), ?_⟩
    intro x so q b us l' fm e hso hde hq hus hb hGs hGf hDs hw8 kk
    subst hde
    refine ⟨small' (by decide), fun o ho => ?_⟩
    have C0 : Coll H H (upd H o (.lst [])) o [] := Coll.new (Same.refl H) ho (as := []) rfl .nil
    refine ⟨_, rfl, q, rfl, ⟨_, SqL.of (C0.all _ _ hq)⟩, for_it walk_list (fun i σ H' => ∃ (F : Hp) (ws : List (List Nat)) (v6 : Option V), σ = [some x, some (.ref l), some (.int so), some (.ref q), some (.ref b), some (.ref o), v6] ∧ Coll H F H' o ws ∧ ws ++ itemsWords (lets ls) (dropI l' i) = itemsWords (lets ls) l')
      ⟨H, [], none, rfl, C0, by cases l' <;> rfl⟩ (fun i σ H' _ ⟨_, _, _, _, C, _⟩ => SqL.of (C.all _ _ hq)) ?_ ?_⟩
    · rintro i y σ H1 H2 hi ⟨F, ws, v6, rfl, C, hws⟩ ⟨rfl, hy⟩
      obtain ⟨it2, hdI, hitem⟩ := items_at_get hus hy
      have hdr := deep_drop (k := i) hDs
      have hgr := good_drop (k := i) hGs
      have hwr := wIs_drop (k := i) hw8
      have hfew := wordss_few (lets ls) l'
      rw [hdI] at hws hdr hgr hwr
      rw [itemsWords_cons] at hws
      rw [wIs_cons] at hwr
      have hlen := congrArg List.length hws
      simp only [List.length_append] at hlen
      obtain ⟨as, ha, hat⟩ := C.ex
      have el := paired_len hat
      refine ⟨_, rfl, .inl ⟨rfl, _, SqL.of ha⟩, _, rfl, _, rfl, y, l, it2, ls, rfl, hitem.mono C.all, C.all _ _ hl, h2, hgr.1, hdr.1, by omega, fun H3 p s3 hp hT3 => ?_⟩
      obtain ⟨bs, hb3, hbt⟩ := hT3
      have eb := paired_len hbt
      refine ⟨o, p, _, _, rfl, rfl, s3 _ _ ha, (off_some hb3).2, small' (by rw [words_ref, words_ref]; omega), ?_⟩
      exact ⟨_, _, _, rfl, C.more s3 (s3 _ _ ha) hbt, by rw [← hws, List.append_assoc]⟩
    · rintro σ H1 ⟨F, ws, v6, rfl, C, hws⟩
      rw [dropI_len hus, itemsWords_nil, List.append_nil] at hws
      subst hws
      have hfew := wordss_few (lets ls) l'
      obtain ⟨as, ha, hat⟩ := C.ex
      have el := paired_len hat
      have sH := C.all
      have hat' : TxtL (Off H H1) as (itemsWords (lets ls) l') := hat.mono (off_up C.s1)
      have hFG : ∀ H', Same H H' → FormG K H' l b ls fm := fun H' s' => ⟨hb.mono s', s' _ _ hl, hGf.1, h2, hGf.2⟩
      refine ⟨_, rfl, rfl, _, rfl, ?_⟩
      rcases hso with rfl | rfl
      · refine if_true_of (by decide) ?_
        refine ⟨_, rfl, len_cps cps_OPEN (by decide), fun H2 c1 s2 hc1 hc1' => ⟨small' (by show 1 ≤ 16000000; decide), fun p1 hp1 => ?_⟩⟩
        rw [cps_OPEN] at hc1'
        have t2 := sH.trans s2
        have s3 : Same H2 (upd H2 p1 (.lst [.ref c1])) := same_new hp1
        have x1 : Tx H (upd H2 p1 (.lst [.ref c1])) p1 [OPEN] := Tx.one t2 (sH.free hc1) hc1' hp1
        have t3 := t2.trans s3
        refine ⟨_, rfl, tx_cat x1 ((Tx.coll C).mono (s2.trans s3)) (by simp; omega) fun p2 H3 s4 hp2 x2 => ?_⟩
        have t4 := t3.trans s4
        refine ⟨_, rfl, len_cps cps_SHUT (by decide), fun H4 c2 s5 hc2 hc2' => ⟨small' (by show 1 ≤ 16000000; decide), fun p3 hp3 => ?_⟩⟩
        rw [cps_SHUT] at hc2'
        have t5 := t4.trans s5
        have s6 : Same H4 (upd H4 p3 (.lst [.ref c2])) := same_new hp3
        have x3 : Tx H (upd H4 p3 (.lst [.ref c2])) p3 [SHUT] := Tx.one t5 (t4.free hc2) hc2' hp3
        refine tx_cat (x2.mono (s5.trans s6)) x3 (by simp; omega) fun p4 H5 s7 hp4 x4 => ?_
        have t7 := (t5.trans s6).trans s7
        refine ⟨_, rfl, _, rfl, b, l, fm, ls, rfl, hFG _ t7, fun H6 p5 s8 hp5 hT5 => ?_⟩
        have tf := times_few (lets ls) fm
        refine tx_cat (x4.mono s8) (Tx.got hT5 t7) (by simp; omega) fun p6 H7 s9 hp6 x6 => ?_
        have hp6H : H p6 = none := (t7.trans s8).free hp6
        refine kk H7 p6 ((t7.trans s8).trans s9) hp6H ?_
        have := x6.new hp6H
        unfold wrapW
        rw [if_pos rfl]
        simpa using this
      · refine if_false_of (by decide) ?_
        refine ⟨_, rfl, len_cps cps_BEGIN (by decide), fun H2 c1 s2 hc1 hc1' => ⟨small' (by show 1 ≤ 16000000; decide), fun p1 hp1 => ?_⟩⟩
        rw [cps_BEGIN] at hc1'
        have t2 := sH.trans s2
        have s3 : Same H2 (upd H2 p1 (.lst [.ref c1])) := same_new hp1
        have x1 : Tx H (upd H2 p1 (.lst [.ref c1])) p1 [BEGIN] := Tx.one t2 (sH.free hc1) hc1' hp1
        have t3 := t2.trans s3
        refine ⟨_, rfl, tx_cat x1 ((Tx.coll C).mono (s2.trans s3)) (by simp; omega) fun p2 H3 s4 hp2 x2 => ?_⟩
        have t4 := t3.trans s4
        refine ⟨_, rfl, len_cps cps_END (by decide), fun H4 c2 s5 hc2 hc2' => ⟨_, rfl, len_cps cps_to (by decide), fun H5 c3 s6 hc3 hc3' => ?_⟩⟩
        rw [cps_END] at hc2'
        rw [cps_to] at hc3'
        have t6 := (t4.trans s5).trans s6
        refine ⟨_, rfl, _, rfl, b, l, fm, ls, rfl, hb.mono t6, SqL.of (t6 _ _ hl), hGf.1, by omega, hGf.2, fun H6 c4 s7 hc4 hc4' => ⟨small' (by show 3 ≤ 16000000; decide), fun p3 hp3 => ?_⟩⟩
        have s8 : Same H6 (upd H6 p3 (.lst [.ref c2, .ref c3, .ref c4])) := same_new hp3
        have t8 := (t6.trans s7).trans s8
        have x3 : Tx H (upd H6 p3 (.lst [.ref c2, .ref c3, .ref c4])) p3 [END, Vbktaa.word "to", Vbktaa.shownForm (lets ls) fm] :=
          ⟨[c2, c3, c4], upd_same, .cons (off_at (t4.free hc2) (s8 _ _ (s7 _ _ (s6 _ _ hc2')))) (.cons (off_at ((t4.trans s5).free hc3) (s8 _ _ (s7 _ _ hc3'))) (.cons (off_at (t6.free hc4) (s8 _ _ hc4')) .nil))⟩
        refine tx_cat (x2.mono (((s5.trans s6).trans s7).trans s8)) x3 (by simp; omega) fun p6 H7 s9 hp6 x6 => ?_
        have hp6H : H p6 = none := t8.free hp6
        refine kk H7 p6 (t8.trans s9) hp6H ?_
        have := x6.new hp6H
        unfold wrapW
        rw [if_neg (by decide)]
        simpa using this
  refine ⟨_, PSs.nox (pss_cons (ps_asg (pv 0) (pg_tup rfl (pgs_cons (pg_name (i := 2) sc.nd rfl (Or.inl rfl)) (pgs_cons (pg_name (i := 3) sc.nd rfl (Or.inl rfl)) (pgs_cons (pg_name (i := 4) sc.nd rfl (Or.inl rfl)) pgs_nil)))))
  (pss_cons (ps_if (pt_cmpR op_eq (pv 2) (pe_gi T.i_STITCH) (nomark _)) (pss_one (ps_ret (pe_op op_cat (pe_lst (pa_cons (pe_f c_signs_of hr pass0 (pa_cons (pe_ix ix_tup (pe_gr T.g_STITCHES) (pv 3) (fun _ _ => rfl)) pa_nil) (hk := k1)) pa_nil)) (pe_f c_times_shown hr pass0 (pa_cons (pv 4) (pa_cons (pv 1) pa_nil)) (hk := hk))))) pss_nil)
   hT)), ?_⟩
  cases it with
  | st s t =>
    obtain ⟨p, b, rfl, hp, hb⟩ := hIt
    have hs8 : s < 8 := hG.1
    refine ⟨_, rfl, p, _, rfl, SqT.of hp, rfl, _, _, rfl, _, _, rfl, _, _, rfl, rfl, ?_⟩
    refine ⟨_, rfl, rfl, _, rfl, if_true_of (by decide) ?_⟩
    obtain ⟨z, hz, hzs⟩ : ∃ z : Str, nameS[s]? = some z ∧ z.cps.toList = NAMES.getD s [] := by
      have e : nameS.map (fun z => z.cps.toList) = NAMES := nameS_are
      have hl : s < nameS.length := hs8
      refine ⟨nameS[s], List.getElem?_eq_getElem hl, ?_⟩
      rw [← e, List.getD_eq_getElem?_getD, List.getElem?_map, List.getElem?_eq_getElem hl]; rfl
    have hNl : ∀ s < 8, (NAMES.getD s []).length ≤ 20 := by decide
    have hN := hNl s hs8
    refine ⟨_, rfl, _, _, _, _, rfl, rfl, T.t_STITCHES _, atI_nat (j := s) (show (nameS.map V.str)[s]? = some (.str z) by rw [List.getElem?_map, hz]; rfl), z, rfl, len_cps hzs (by omega), fun H1 c1 s1 hc1 hc1' => ⟨small' (by show 1 ≤ 16000000; decide), fun p1 hp1 => ?_⟩⟩
    rw [hzs] at hc1'
    have s2 : Same H1 (upd H1 p1 (.lst [.ref c1])) := same_new hp1
    have x1 : Tx H (upd H1 p1 (.lst [.ref c1])) p1 [NAMES.getD s []] := Tx.one s1 hc1 hc1' hp1
    have t2 := s1.trans s2
    refine ⟨_, rfl, _, rfl, b, l, t, ls, rfl, ⟨hb.mono t2, t2 _ _ hl, hG.2.1, h2, hG.2.2⟩, fun H3 p5 s3 hp5 hT5 => ?_⟩
    have tf := times_few (lets ls) t
    refine tx_cat (x1.mono s3) (Tx.got hT5 t2) (by simp; omega) fun p6 H7 s9 hp6 x6 => ?_
    have hp6H : H p6 = none := (t2.trans s3).free hp6
    refine kk H7 p6 ((t2.trans s3).trans s9) hp6H ?_
    have := x6.new hp6H
    rw [itemWords]
    exact this
  | group l' t =>
    obtain ⟨p, q, b, us, rfl, hp, hq, hus, hb⟩ := hIt
    obtain ⟨e, hde, hDs⟩ := hD
    rw [wI_group] at hW
    refine ⟨_, rfl, p, _, rfl, SqT.of hp, rfl, _, _, rfl, _, _, rfl, _, _, rfl, rfl, ?_⟩
    refine ⟨_, rfl, rfl, _, rfl, if_false_of (by decide) ?_⟩
    refine go _ 1 q b us l' t e (.inl rfl) hde hq hus hb hG.1 hG.2 hDs (by omega) ?_
    rw [itemWords] at kk
    exact kk
  | fill l' t =>
    obtain ⟨p, q, b, us, rfl, hp, hq, hus, hb⟩ := hIt
    obtain ⟨e, hde, hDs⟩ := hD
    rw [wI_fill] at hW
    refine ⟨_, rfl, p, _, rfl, SqT.of hp, rfl, _, _, rfl, _, _, rfl, _, _, rfl, rfl, ?_⟩
    refine ⟨_, rfl, rfl, _, rfl, if_false_of (by decide) ?_⟩
    refine go _ 2 q b us l' t e (.inr rfl) hde hq hus hb hG.1 hG.2 hDs (by omega) ?_
    rw [itemWords] at kk
    exact kk
theorem ok_words (T : Txt K mg) (D : Def K mg "item_words" s_item_words) (c_signs_of : Cal P w K mg base CX0 1 "signs_of" ["word"] spSigns) (c_times_shown : Cal P w K mg base CX0 3 "times_shown" ["form", "letters"] (spTimesShown K)) (c_form_shown : Cal P w K mg base CX0 2 "form_shown" ["form", "letters"] (spFormShown K)) :
    Cal P w K mg base CX0 7 "item_words" ["item", "letters"] (spItemW K 3) := by
  have c0 : Cal P w K mg base CX0 3 "item_words" ["item", "letters"] (spItemW0 K 0) := Cal.never D (fun _ _ _ _ _ _ us hl => match us, hl with | [_, _], _ => rfl) (fun _ _ _ _ h => h)
  have c1 := ok_item_words (k := 3) (d := 0) (by decide) T D c_signs_of c_times_shown c_form_shown c0
  have c2 := ok_item_words (k := 4) (d := 1) (by decide) T D c_signs_of c_times_shown c_form_shown c1
  have c3 := ok_item_words (k := 5) (d := 2) (by decide) T D c_signs_of c_times_shown c_form_shown c2
  exact ok_item_words (k := 6) (d := 3) (by decide) T D c_signs_of c_times_shown c_form_shown c3
end
end Kn
namespace Kn
open PySem PySem.Spec PyProof.Rows L2
open Vbktaa (Form Size Item Items itemWords itemsWords timesWords NAMES word decimal)
theorem name_short {w : List Nat} (h : Vbktaa.isName w = true) : w.length ≤ 8 := by
  unfold Vbktaa.isName at h
  rw [Bool.and_eq_true, decide_eq_true_eq] at h
  exact h.1.2
/-- nothing was there -/
def none0 : Hp := fun _ => none
theorem same0 {H : Hp} : Same none0 H := fun _ _ h => nomatch h
theorem off0 {H : Hp} {b : Addr} {o : HO} (h : H b = some o) : Off none0 H b = some o := h
def rowText (ls : List (List Nat)) (x : List Nat × Items) : List Nat := Vbktaa.line (word "row" :: x.1 :: itemsWords ls x.2)
theorem row_words {ls : List Nat} {x : List Nat × Items} (h2 : ls.length ≤ 2) (hG : RowG ls.length x) : Words (word "row" :: x.1 :: itemsWords (lets ls) x.2) := by
  refine ⟨fun w hw => ?_, ?_⟩
  · rcases List.mem_cons.mp hw with e | m
    · rw [e]; decide
    · rcases List.mem_cons.mp m with e | m
      · rw [e]; have := name_short hG.name; omega
      · exact wordss_short h2 x.2 hG.good w m
  · have := wordss_few (lets ls) x.2
    have := hG.few
    simp only [List.length_cons]; omega
section
variable {P : Program} {w : World} {K : PySem.W.Frag} {mg : Str → Option Value} {base : Heap}
/-! ### row_line -/
def spRowLine (K : PySem.W.Frag) : Sp := fun vs H Q _ => ∃ (a l : Addr) (x : List Nat × Items) (ls : List Nat), vs = [.ref a, .ref l] ∧ RowAt H a x ∧ H l = some (.lst (VT ls)) ∧ ls.length ≤ 2 ∧ RowG ls.length x ∧ New H (VT (rowText (lets ls) x)) Q
theorem sc_row_line : FnScope ["row", "letters", "name", "items", "words", "item"] ["row", "letters"] (defScope s_row_line) := ⟨rfl, rfl, rfl, by decide +kernel, rfl, by decide +kernel, by decide +kernel⟩
theorem ok_row_line (T : Txt K mg) (D : Def K mg "row_line" s_row_line) (c_signs_of : Cal P w K mg base CX0 1 "signs_of" ["word"] spSigns) (c_item_words : Cal P w K mg base CX0 7 "item_words" ["item", "letters"] (spItemW K 3)) (c_line_of : Cal P w K mg base CX0 2 "line_of" ["words"] spLineOf) :
    Cal P w K mg base CX0 8 "row_line" ["row", "letters"] (spRowLine K) := by
  have sc := sc_row_line
  refine Cal.mk' D sc (fun _ _ _ _ _ _ us hl => match us, hl with | [_, _], _ => rfl) (fun vs H Q E h => ?_) (fun f cdv A outer s H vs Q E hr h => ?_)
  · obtain ⟨_, _, _, _, rfl, _⟩ := h; rfl
  obtain ⟨a, l, x, ls, rfl, ⟨n, q, us, ha, hn, hq, hus⟩, hl, h2, hG, kk⟩ := h
  refine ⟨_, PSs.nox (pss_cons (ps_asg (pv 0) (pg_tup rfl (pgs_cons (pg_name (i := 2) sc.nd rfl (Or.inl rfl)) (pgs_cons (pg_name (i := 3) sc.nd rfl (Or.inl rfl)) pgs_nil))))
  (pss_cons (ps_set (i := 4) sc.nd rfl (Or.inl rfl) (pe_lst (pa_cons (pe_f c_signs_of hr pass0 (pa_cons pe_str pa_nil)) (pa_cons (pv 2) pa_nil))))
  (pss_cons (ps_for PassesOwn.never rfl (pi_list (pv 3)) (pg_name (i := 5) sc.nd rfl (Or.inl rfl)) (pss_one (ps_expr (pe_bm PySem.F.plainAttrs_list PySem.F.slot_list_extend PySem.F.type_list_extend mt_extend (pv 4) (pa_cons (pe_f c_item_words hr pass0 (pa_cons (pv 5) (pa_cons (pv 1) pa_nil))) pa_nil)))))
  (pss_one (ps_ret (pe_f c_line_of hr pass0 (pa_cons (pv 4) pa_nil))))))), ?_⟩
  refine ⟨_, rfl, a, _, rfl, SqT.of ha, rfl, _, _, rfl, _, _, rfl, rfl, ?_⟩
  refine ⟨_, rfl, len_cps cps_row (by decide), fun H1 c1 s1 hc1 hc1' => ⟨_, rfl, small' (by show 2 ≤ 16000000; decide), fun o ho => ?_⟩⟩
  rw [cps_row] at hc1'
  have C0 : Coll none0 H1 (upd H1 o (.lst [.ref c1, .ref n])) o [word "row", x.1] := Coll.new same0 ho (as := [c1, n]) rfl (.cons hc1' (.cons (s1 _ _ hn) .nil))
  have s0 : Same H (upd H1 o (.lst [.ref c1, .ref n])) := s1.trans (same_new ho)
  have hoH : H o = none := s1.free ho
  have hfew := wordss_few (lets ls) x.2
  have hg8 := hG.few
  refine ⟨_, rfl, q, rfl, ⟨_, SqL.of (s0 _ _ hq)⟩, for_it walk_list (fun i σ H' => ∃ (F : Hp) (ws : List (List Nat)) (v6 : Option V), σ = [some (.ref a), some (.ref l), some (.ref n), some (.ref q), some (.ref o), v6] ∧ Same H H' ∧ Coll none0 F H' o ws ∧ ws ++ itemsWords (lets ls) (dropI x.2 i) = word "row" :: x.1 :: itemsWords (lets ls) x.2)
    ⟨H1, _, none, rfl, s0, C0, by cases x.2 <;> rfl⟩ (fun i σ H' _ ⟨_, _, _, _, s, _⟩ => SqL.of (s _ _ hq)) ?_ ?_⟩
  · rintro i y σ H2 H3 hi ⟨F, ws, v6, rfl, s2, C, hws⟩ ⟨rfl, hy⟩
    obtain ⟨it2, hdI, hitem⟩ := items_at_get hus hy
    have hdr := deep_drop (k := i) hG.deep
    have hgr := good_drop (k := i) hG.good
    have hwr := wIs_drop (k := i) hg8
    rw [hdI] at hws hdr hgr hwr
    rw [itemsWords_cons] at hws
    rw [wIs_cons] at hwr
    have hlen := congrArg List.length hws
    simp only [List.length_append, List.length_cons] at hlen
    obtain ⟨as, ha2, hat⟩ := C.ex
    have el := paired_len hat
    refine ⟨_, rfl, .inl ⟨rfl, _, SqL.of ha2⟩, _, rfl, _, rfl, y, l, it2, ls, rfl, hitem.mono s2, s2 _ _ hl, h2, hgr.1, hdr.1, by omega, fun H3 p s3 hp hT3 => ?_⟩
    obtain ⟨bs, hb3, hbt⟩ := hT3
    have eb := paired_len hbt
    refine ⟨o, p, _, _, rfl, rfl, s3 _ _ ha2, (off_some hb3).2, small' (by rw [words_ref, words_ref]; omega), ?_⟩
    exact ⟨_, _, _, rfl, same_put (s2.trans s3) hoH, C.more s3 (s3 _ _ ha2) hbt, by rw [← hws, List.append_assoc]⟩
  · rintro σ H2 ⟨F, ws, v6, rfl, s2, C, hws⟩
    rw [dropI_len hus, itemsWords_nil, List.append_nil] at hws
    subst hws
    refine ⟨_, rfl, o, _, rfl, (Tx.coll C).plain, row_words h2 hG, fun H3 p s3 hp hp3 => ?_⟩
    exact kk H3 p (s2.trans s3) (s2.free hp) hp3
/-! ### letter_line -/
def letterText (s : Size) : List Nat := Vbktaa.line ([word "size", s.name, decimal s.lo, decimal s.step] ++ s.hi.toList.map decimal)
def spLetterLine (K : PySem.W.Frag) : Sp := fun vs H Q _ => ∃ (a : Addr) (s : Size), vs = [.ref a] ∧ LetAt H a s ∧ SizeG s ∧ New H (VT (letterText s)) Q
theorem decimal_short {n : Nat} (h : n ≤ 9999) : (decimal n).length ≤ 20 := Nat.le_trans (decimal_len h) (by decide)
theorem sc_letter_line : FnScope ["letter", "sign", "least", "step", "greatest", "words"] ["letter"] (defScope s_letter_line) := ⟨rfl, rfl, rfl, by decide +kernel, rfl, by decide +kernel, by decide +kernel⟩
theorem ok_letter_line (T : Txt K mg) (D : Def K mg "letter_line" s_letter_line) (c_signs_of : Cal P w K mg base CX0 1 "signs_of" ["word"] spSigns) (c_line_of : Cal P w K mg base CX0 2 "line_of" ["words"] spLineOf) :
    Cal P w K mg base CX0 3 "letter_line" ["letter"] (spLetterLine K) := by
  have sc := sc_letter_line
  refine Cal.mk' D sc (fun _ _ _ _ _ _ us hl => match us, hl with | [_], _ => rfl) (fun vs H Q E h => ?_) (fun f cdv A outer s H vs Q E hr h => ?_)
  · obtain ⟨_, _, rfl, _⟩ := h; rfl
  obtain ⟨a, z, rfl, ha, hG, kk⟩ := h
  refine ⟨_, PSs.nox (pss_cons (ps_asg (pv 0) (pg_tup rfl (pgs_cons (pg_name (i := 1) sc.nd rfl (Or.inl rfl)) (pgs_cons (pg_name (i := 2) sc.nd rfl (Or.inl rfl)) (pgs_cons (pg_name (i := 3) sc.nd rfl (Or.inl rfl)) (pgs_cons (pg_name (i := 4) sc.nd rfl (Or.inl rfl)) pgs_nil))))))
  (pss_cons (ps_set (i := 5) sc.nd rfl (Or.inl rfl) (pe_lst (pa_cons (pe_f c_signs_of hr pass0 (pa_cons pe_str pa_nil)) (pa_cons (pe_lst (pa_cons (pv 1) pa_nil)) (pa_cons (pe_f c_signs_of hr pass0 (pa_cons (pe_callTy call_str_int (by rfl) T.f_str (by decide +kernel) (pa_cons (pv 2) pa_nil)) pa_nil)) (pa_cons (pe_f c_signs_of hr pass0 (pa_cons (pe_callTy call_str_int (by rfl) T.f_str (by decide +kernel) (pa_cons (pv 3) pa_nil)) pa_nil)) pa_nil))))))
  (pss_cons (ps_if (pt_cmpR op_ge (pv 4) pe_int (nomark _)) (pss_one (ps_expr (pe_bm PySem.F.plainAttrs_list PySem.F.slot_list_append PySem.F.type_list_append mt_append (pv 5) (pa_cons (pe_f c_signs_of hr pass0 (pa_cons (pe_callTy call_str_int (by rfl) T.f_str (by decide +kernel) (pa_cons (pv 4) pa_nil)) pa_nil)) pa_nil)))) pss_nil)
  (pss_one (ps_ret (pe_f c_line_of hr pass0 (pa_cons (pv 5) pa_nil))))))), ?_⟩
  have hlo := hG.lo
  have hst := hG.step
  obtain ⟨nm, ename, _⟩ := hG.name
  have esg : sgn z = nm := by unfold sgn; rw [ename]; rfl
  have hdec : ∀ n : Nat, (Str.ofString (toString (n : Int))).cps.toList = decimal n := fun n => by rw [signs_str]; rfl
  have hlog : ∀ n : Nat, n ≤ 9999 → (n : Int).natAbs.log2 < 1920 := fun n h => log_small (by rw [Int.natAbs_natCast]; exact h)
  have hsz : ∀ n : Nat, n ≤ 9999 → (Str.ofString (toString (n : Int))).cps.size ≤ 1000 := fun n h => str_size (by rw [Int.natAbs_natCast]; exact h)
  refine ⟨_, rfl, a, _, rfl, SqT.of ha, rfl, _, _, rfl, _, _, rfl, _, _, rfl, _, _, rfl, rfl, ?_⟩
  refine ⟨_, rfl, len_cps cps_size (by decide), fun H1 c1 s1 hc1 hc1' => ⟨_, rfl, small' (by show 1 ≤ 16000000; decide), fun c2 hc2 => ?_⟩⟩
  rw [cps_size] at hc1'
  have s2 : Same H1 (upd H1 c2 (.lst [.int (sgn z : Int)])) := same_new hc2
  refine ⟨_, rfl, _, rfl, hlog _ (by omega), _, rfl, hsz _ (by omega), fun H3 c3 s3 hc3 hc3' => ?_⟩
  rw [hdec] at hc3'
  refine ⟨_, rfl, _, rfl, hlog _ (by omega), _, rfl, hsz _ (by omega), fun H4 c4 s4 hc4 hc4' => ?_⟩
  rw [hdec] at hc4'
  refine ⟨small' (by show 4 ≤ 16000000; decide), fun o ho => ?_⟩
  have C0 : Coll none0 H4 (upd H4 o (.lst [.ref c1, .ref c2, .ref c3, .ref c4])) o [word "size", z.name, decimal z.lo, decimal z.step] :=
    Coll.new same0 ho (as := [c1, c2, c3, c4]) rfl (.cons (s4 _ _ (s3 _ _ (s2 _ _ hc1'))) (.cons (by rw [ename, ← esg]; exact s4 _ _ (s3 _ _ upd_same)) (.cons (s4 _ _ hc3') (.cons hc4' .nil))))
  have t4 : Same H (upd H4 o (.lst [.ref c1, .ref c2, .ref c3, .ref c4])) := ((s1.trans s2).trans (s3.trans s4)).trans (same_new ho)
  have hoH : H o = none := ((s1.trans s2).trans (s3.trans s4)).free ho
  have hw4 : ∀ w ∈ [word "size", z.name, decimal z.lo, decimal z.step], w.length ≤ 20 := by
    intro w hw
    simp only [List.mem_cons, List.not_mem_nil, or_false] at hw
    rcases hw with e | e | e | e
    · rw [e]; decide
    · rw [e, ename]; show 1 ≤ 20; decide
    · rw [e]; exact decimal_short (by omega)
    · rw [e]; exact decimal_short (by omega)
  refine ⟨_, rfl, _, _, rfl, rfl, _, rfl, ?_⟩
  have hhi := hG.hi
  unfold hiI letterText at *
  cases e : z.hi with
  | none =>
    rw [e] at kk
    refine if_false_of (by decide) ⟨_, rfl, o, _, rfl, (Tx.coll C0).plain, ⟨hw4, by show 4 ≤ 100000; decide⟩, fun H5 p s5 hp hp5 => ?_⟩
    exact kk H5 p (t4.trans s5) (t4.free hp) hp5
  | some g =>
    rw [e] at kk
    have hg := hhi g e
    dsimp only
    refine if_true_of (decide_eq_true (by omega)) ?_
    refine ⟨_, rfl, .inl ⟨rfl, _, SqL.of upd_same⟩, _, rfl, _, rfl, hlog _ (by omega), _, rfl, hsz _ (by omega), fun H5 c5 s5 hc5 hc5' => ?_⟩
    rw [hdec] at hc5'
    refine ⟨o, _, _, rfl, rfl, s5 _ _ upd_same, small (by show 4 ≤ 16000000; decide), ?_⟩
    have C1 := C0.more (as := [c1, c2, c3, c4]) (bs := [c5]) (us := [decimal g]) s5 (s5 _ _ upd_same) (.cons (off_at hc5 hc5') .nil)
    refine ⟨_, rfl, o, _, rfl, (Tx.coll C1).plain, ⟨?_, by show 5 ≤ 100000; decide⟩, fun H6 p s6 hp hp6 => ?_⟩
    · intro w hw
      rcases List.mem_append.mp hw with m | m
      · exact hw4 w m
      · rw [List.mem_singleton.mp m]; exact decimal_short (by omega)
    · have t5 := same_put (o := .lst ([c1, c2, c3, c4].map V.ref ++ [c5].map V.ref)) (t4.trans s5) hoH
      exact kk H6 p (t5.trans s6) (t5.free hp) hp6
end
end Kn
namespace Kn
open PySem PySem.Spec PyProof.Rows L2
open Vbktaa (Form Size Item Items Part Parts itemWords itemsWords timesWords partText partsText NAMES word decimal)
theorem partsText_cons (ls : List (List Nat)) (i : Part) (r : Parts) : partsText ls (.cons i r) = partText ls i ++ partsText ls r := by rw [partsText]
theorem partsText_nil (ls : List (List Nat)) : partsText ls .nil = [] := by rw [partsText]
theorem partText_row (ls : List (List Nat)) (k : Nat) (n : List Nat) (l : Items) : partText ls (.row k n l) = rowText ls (n, l) := by rw [partText]; rfl
theorem partText_again (ls : List (List Nat)) (t : Form) (l : Parts) : partText ls (.again t l) = Vbktaa.line [word "again", Vbktaa.shownForm ls t] ++ (partsText ls l ++ Vbktaa.line [word "end"]) := by rw [partText]
theorem nPs_cons (i : Part) (r : Parts) : nPs (.cons i r) = nP i + nPs r := by rw [nPs]
theorem nP_row (k : Nat) (n : List Nat) (l : Items) : nP (.row k n l) = 1 := by rw [nP]
theorem nP_again (t : Form) (l : Parts) : nP (.again t l) = nPs l + 1 := by rw [nP]
theorem nPs_drop : ∀ {l : Parts} {k m : Nat}, nPs l ≤ m → nPs (dropP l k) ≤ m
  | .nil, 0, _, h => h
  | .nil, _ + 1, _, h => h
  | .cons i r, 0, _, h => h
  | .cons i r, k + 1, m, h => by
    rw [nPs_cons] at h
    exact nPs_drop (l := r) (k := k) (m := m) (by omega)
theorem row_len {ls : List Nat} {x : List Nat × Items} (h2 : ls.length ≤ 2) (hG : RowG ls.length x) : (rowText (lets ls) x).length ≤ 2000 := by
  have hW := row_words h2 hG
  have h1 := line_len hW.1
  have h3 := wordss_few (lets ls) x.2
  have h4 := hG.few
  simp only [List.length_cons] at h1
  unfold rowText
  omega
theorem again_words {ls : List Nat} {t : Form} (h2 : ls.length ≤ 2) (h : GoodF ls.length t) : Words [word "again", Vbktaa.shownForm (lets ls) t] := by
  refine ⟨fun w hw => ?_, by show 2 ≤ 100000; decide⟩
  simp only [List.mem_cons, List.not_mem_nil, or_false] at hw
  rcases hw with e | e
  · rw [e]; decide
  · rw [e]; exact form_short h2 h
theorem cast_words {ls : List Nat} {t : Form} (h2 : ls.length ≤ 2) (h : GoodF ls.length t) : Words [word "cast", Vbktaa.shownForm (lets ls) t] := by
  refine ⟨fun w hw => ?_, by show 2 ≤ 100000; decide⟩
  simp only [List.mem_cons, List.not_mem_nil, or_false] at hw
  rcases hw with e | e
  · rw [e]; decide
  · rw [e]; exact form_short h2 h
theorem one_words {t : List Nat} (h : t.length ≤ 20) : Words [t] := ⟨fun w hw => by rw [List.mem_singleton.mp hw]; exact h, by show 1 ≤ 100000; decide⟩
theorem two_len {a b : List Nat} (h : Words [a, b]) : (Vbktaa.line [a, b]).length ≤ 43 := by
  have h1 := line_len h.1
  exact h1
theorem one_len {a : List Nat} (h : Words [a]) : (Vbktaa.line [a]).length ≤ 22 := by
  have h1 := line_len h.1
  exact h1
mutual
theorem part_len {ls : List Nat} {rows : List (List Nat × Items)} (h2 : ls.length ≤ 2) (hr : ∀ y ∈ rows, RowG ls.length y) : ∀ (i : Part) (d : Nat), PartOk ls.length rows i d → (partText (lets ls) i).length ≤ 2000 * nP i
  | .row k n l, d, h => by
    rw [partText_row, nP_row]
    have e : rows[k]? = some (n, l) := h
    exact row_len h2 (hr _ (List.mem_of_getElem? e))
  | .again t l, d, h => by
    obtain ⟨e, he, hg, hp⟩ := h
    rw [partText_again, nP_again]
    have h1 := two_len (again_words h2 hg)
    have h3 := one_len (one_words (t := word "end") (by decide))
    have h4 := parts_len h2 hr l e hp
    simp only [List.length_append]
    omega
theorem parts_len {ls : List Nat} {rows : List (List Nat × Items)} (h2 : ls.length ≤ 2) (hr : ∀ y ∈ rows, RowG ls.length y) : ∀ (l : Parts) (d : Nat), PartsOk ls.length rows l d → (partsText (lets ls) l).length ≤ 2000 * nPs l
  | .nil, d, h => by rw [partsText_nil]; exact Nat.zero_le _
  | .cons i r, d, h => by
    rw [partsText_cons, nPs_cons, List.length_append]
    have h1 := part_len h2 hr i d h.1
    have h3 := parts_len h2 hr r d h.2
    omega
end
section
variable {P : Program} {w : World} {K : PySem.W.Frag} {mg : Str → Option Value} {base : Heap}
/-! ### parts_shown -/
structure PatG (K : PySem.W.Frag) (H : Hp) (p : Addr) (q : Vbktaa.Pattern) (rows : List (List Nat × Items)) : Prop where
  at_ : PatAt K H p q rows
  sizes : SizesG q.sizes
  two : q.sizes.length ≤ 2
  rowg : ∀ y ∈ rows, RowG q.sizes.length y
theorem PatG.mono {H H' : Hp} {p : Addr} {q : Vbktaa.Pattern} {rows : List (List Nat × Items)} (h : PatG K H p q rows) (s : Same H H') : PatG K H' p q rows := ⟨h.at_.mono s, h.sizes, h.two, h.rowg⟩
theorem PatG.letters {H : Hp} {p : Addr} {q : Vbktaa.Pattern} {rows : List (List Nat × Items)} (h : PatG K H p q rows) : PatL K H p q.sizes := h.at_.letters h.sizes h.two
def spPartsShown (K : PySem.W.Frag) (d : Nat) : Sp := fun vs H Q _ => ∃ (p a : Addr) (q : Vbktaa.Pattern) (rows : List (List Nat × Items)) (us : List V) (parts : Parts), vs = [.ref p, .ref a] ∧ PatG K H p q rows ∧ H a = some (.lst us) ∧ PartsAt H parts us ∧ PartsOk q.sizes.length rows parts d ∧ nPs parts ≤ 3000 ∧
  New H (VT (partsText (lets (q.sizes.map sgn)) parts)) Q
def spPartsShown0 (K : PySem.W.Frag) : Nat → Sp
  | 0 => fun _ _ _ _ => False
  | d + 1 => spPartsShown K d
theorem sc_parts_shown : FnScope ["pattern", "parts", "letters", "found", "number", "inner", "form"] ["pattern", "parts"] (defScope s_parts_shown) := ⟨rfl, rfl, rfl, by decide +kernel, rfl, by decide +kernel, by decide +kernel⟩
theorem ok_parts_shown {k d : Nat} (hk : 8 ≤ k) (T : Txt K mg) (D : Def K mg "parts_shown" s_parts_shown) (c_signs_of : Cal P w K mg base CX0 1 "signs_of" ["word"] spSigns) (c_line_of : Cal P w K mg base CX0 2 "line_of" ["words"] spLineOf) (c_form_shown : Cal P w K mg base CX0 2 "form_shown" ["form", "letters"] (spFormShown K))
    (c_row_line : Cal P w K mg base CX0 8 "row_line" ["row", "letters"] (spRowLine K)) (m_signs : CalM P w K mg base CX0 1 (He.ma K (He.ga K "Pattern") "signs") ["self"] (spPSigns K)) (c_parts_shown : Cal P w K mg base CX0 k "parts_shown" ["pattern", "parts"] (spPartsShown0 K d)) :
    Cal P w K mg base CX0 (k + 1) "parts_shown" ["pattern", "parts"] (spPartsShown K d) := by
  have sc := sc_parts_shown
  refine Cal.mk' D sc (fun _ _ _ _ _ _ us hl => match us, hl with | [_, _], _ => rfl) (fun vs H Q E h => ?_) (fun f cdv A outer s H vs Q E hr h => ?_)
  · obtain ⟨_, _, _, _, _, _, rfl, _⟩ := h; rfl
  obtain ⟨p, a, q, rows, us, parts, rfl, hP, ha, hIt, hOk, hfew, kk⟩ := h
  have k1 : 1 ≤ k := by omega
  have k2 : 2 ≤ k := by omega
  refine ⟨_, PSs.nox (pss_cons (ps_set (i := 2) sc.nd rfl (Or.inl rfl) (pe_m0 (pv 0) T.cPattern T.mt_signs m_signs hr pass0 (hk := k1)))
  (pss_cons (ps_set (i := 3) sc.nd rfl (Or.inl rfl) (pe_lst pa_nil))
  (pss_cons (ps_for PassesOwn.never rfl (pi_list (pv 1)) (pg_tup rfl (pgs_cons (pg_name (i := 4) sc.nd rfl (Or.inl rfl)) (pgs_cons (pg_name (i := 5) sc.nd rfl (Or.inl rfl)) (pgs_cons (pg_name (i := 6) sc.nd rfl (Or.inl rfl)) pgs_nil)))) (pss_one (ps_if (pt_cmpR op_eq (pv 4) (pe_gi T.i_BLOCK) (nomark _)) (pss_cons (ps_expr (pe_bm PySem.F.plainAttrs_list PySem.F.slot_list_extend PySem.F.type_list_extend mt_extend (pv 3) (pa_cons (pe_f c_line_of hr pass0 (pa_cons (pe_lst (pa_cons (pe_f c_signs_of hr pass0 (pa_cons pe_str pa_nil) (hk := k1)) (pa_cons (pe_f c_form_shown hr pass0 (pa_cons (pv 6) (pa_cons (pv 2) pa_nil)) (hk := k2)) pa_nil))) pa_nil) (hk := k2)) pa_nil)))
      (pss_cons (ps_expr (pe_bm PySem.F.plainAttrs_list PySem.F.slot_list_extend PySem.F.type_list_extend mt_extend (pv 3) (pa_cons (pe_f c_parts_shown hr pass0 (pa_cons (pv 0) (pa_cons (pv 5) pa_nil)) (hk := Nat.le_refl _)) pa_nil)))
      (pss_one (ps_expr (pe_bm PySem.F.plainAttrs_list PySem.F.slot_list_extend PySem.F.type_list_extend mt_extend (pv 3) (pa_cons (pe_f c_line_of hr pass0 (pa_cons (pe_lst (pa_cons (pe_f c_signs_of hr pass0 (pa_cons pe_str pa_nil) (hk := k1)) pa_nil)) pa_nil) (hk := k2)) pa_nil)))))) (pss_one (ps_expr (pe_bm PySem.F.plainAttrs_list PySem.F.slot_list_extend PySem.F.type_list_extend mt_extend (pv 3) (pa_cons (pe_f c_row_line hr pass0 (pa_cons (pe_ix ix_list (pe_fld (pv 0) rfl) (pv 4) (fun _ _ => rfl)) (pa_cons (pv 2) pa_nil)) (hk := hk)) pa_nil)))))))
  (pss_one (ps_ret (pv 3)))))), ?_⟩
  have hPL := hP.letters
  have hPA := hP.at_
  have h2 : (q.sizes.map sgn).length ≤ 2 := by rw [List.length_map]; exact hP.two
  have en : (q.sizes.map sgn).length = q.sizes.length := List.length_map _
  have hrg : ∀ y ∈ rows, RowG (q.sizes.map sgn).length y := by rw [en]; exact hP.rowg
  have hOk' : PartsOk (q.sizes.map sgn).length rows parts d := by rw [en]; exact hOk
  obtain ⟨dx, la, ca, ra, pa, las, rs, pus, h1, h3, h4, h5, h6, h7, h8, h9⟩ := hPA.ex
  refine ⟨_, rfl, p, dx, _, rfl, h1, rfl, p, q.sizes, rfl, hPL, fun H1 l s1 hl0 hl1 => ?_⟩
  generalize hls : q.sizes.map sgn = ls at hl1 kk h2 hrg hOk' en
  have hall := parts_len h2 hrg parts d hOk'
  refine ⟨small' (by decide), fun o ho => ?_⟩
  have s2 : Same H (upd H1 o (.lst [])) := s1.trans (same_new ho)
  have hoH := s1.free ho
  refine ⟨_, rfl, a, rfl, ⟨_, SqL.of (s2 _ _ ha)⟩, for_it walk_list (fun i σ H' => ∃ (t : List Nat) (v4 v5 v6 : Option V), σ = [some (.ref p), some (.ref a), some (.ref l), some (.ref o), v4, v5, v6] ∧ Same H H' ∧ H' l = some (.lst (VT ls)) ∧ l ≠ o ∧ H' o = some (.lst (VT t)) ∧ t ++ partsText (lets ls) (dropP parts i) = partsText (lets ls) parts)
    ⟨[], none, none, none, rfl, s2, put_at ho hl1, ne_some_none hl1 ho |>.symm, upd_same, by cases parts <;> rfl⟩ (fun i σ H' _ ⟨_, _, _, _, _, s, _⟩ => SqL.of (s _ _ ha)) ?_ ?_⟩
  · rintro i x σ H2 H3 hi ⟨t, v4, v5, v6, rfl, s3, hl3, hlo, ho3, ht⟩ ⟨rfl, hx⟩
    obtain ⟨it, hdI, hitem⟩ := parts_at_get hIt hx
    have hdr := partsOk_drop (k := i) hOk'
    have hnr := nPs_drop (k := i) hfew
    rw [hdI] at hdr ht hnr
    rw [nPs_cons] at hnr
    rw [partsText_cons] at ht
    obtain ⟨hd1, _⟩ := hdr
    have hlen := congrArg List.length ht
    simp only [List.length_append] at hlen
    cases it with
    | row kk' nm li =>
      obtain ⟨tp, e1, e2, rfl, htp⟩ := hitem
      refine ⟨tp, _, rfl, SqT.of (s3 _ _ htp), rfl, _, _, rfl, _, _, rfl, _, _, rfl, rfl, ?_⟩
      refine ⟨_, rfl, rfl, _, rfl, if_false_of (decide_eq_false (fun e => by have := V.int.inj e; omega)) ?_⟩
      have hrow : rows[kk']? = some (nm, li) := hd1
      have hkl : kk' < rs.length := by rw [paired_len h7]; exact (List.getElem?_eq_some_iff.mp hrow).1
      obtain ⟨y', ey, hRA⟩ := paired_get h7 (List.getElem?_eq_getElem hkl)
      rw [hrow] at ey
      cases ey
      have hG := hrg _ (List.mem_of_getElem? hrow)
      have hrl := row_len h2 hG
      rw [partText_row] at ht hlen
      refine ⟨_, rfl, .inl ⟨rfl, _, SqL.of ho3⟩, _, rfl, p, _, dx, _, _, rfl, s3 _ _ h1, T.cPattern, T.nPattern_rows, rfl, _, rfl, ra, _, _, _, rfl, rfl, SqL.of (s3 _ _ h6), atI_nat (j := kk') (show (rs.map V.ref)[kk']? = some (.ref rs[kk']) by rw [List.getElem?_map, List.getElem?_eq_getElem hkl]; rfl), _, rfl, rs[kk'], l, (nm, li), ls, rfl, hRA.mono s3, hl3, h2, hG, fun H4 r s4 hr0 hr4 => ?_⟩
      refine ⟨o, r, _, _, rfl, rfl, s4 _ _ ho3, hr4, small' (by rw [VT_len, VT_len]; omega), ?_⟩
      refine ⟨t ++ rowText (lets ls) (nm, li), _, _, _, rfl, same_put (s3.trans s4) hoH, ?_, hlo, ?_, ?_⟩
      · rw [upd_ne hlo]; exact s4 _ _ hl3
      · rw [upd_same, VT_app]
      · rw [← ht, List.append_assoc]
    | again t1 l1 =>
      obtain ⟨tp, qa, ba, us1, rfl, htp, hqa, hus1, hba⟩ := hitem
      obtain ⟨e, rfl, hgf, hok1⟩ := hd1
      rw [nP_again] at hnr
      rw [partText_again] at ht hlen
      simp only [List.length_append] at hlen
      refine ⟨tp, _, rfl, SqT.of (s3 _ _ htp), rfl, _, _, rfl, _, _, rfl, _, _, rfl, rfl, ?_⟩
      refine ⟨_, rfl, rfl, _, rfl, if_true_of (decide_eq_true rfl) ?_⟩
      refine ⟨_, rfl, .inl ⟨rfl, _, SqL.of ho3⟩, _, rfl, len_cps cps_again (by decide), fun H4 c1 s4 hc1 hc1' => ⟨_, rfl, _, rfl, ba, l, t1, ls, rfl, (hba.mono s3).mono s4, SqL.of (s4 _ _ hl3), hgf.1, by omega, hgf.2, fun H5 c2 s5 hc2 hc2' => ⟨small' (by show 2 ≤ 16000000; decide), fun p1 hp1 => ?_⟩⟩⟩
      rw [cps_again] at hc1'
      have s6 : Same H5 (upd H5 p1 (.lst [.ref c1, .ref c2])) := same_new hp1
      refine ⟨p1, _, rfl, ⟨[c1, c2], upd_same, .cons (s6 _ _ (s5 _ _ hc1')) (.cons (s6 _ _ hc2') .nil)⟩, again_words h2 hgf, fun H6 r s7 hr0 hr6 => ?_⟩
      have t6 := (s4.trans s5).trans (s6.trans s7)
      refine ⟨o, r, _, _, rfl, rfl, t6 _ _ ho3, hr6, small' (by rw [VT_len, VT_len]; omega), ?_⟩
      rw [← VT_app]
      have s8 := same_put (o := .lst (VT (t ++ Vbktaa.line [word "again", Vbktaa.shownForm (lets ls) t1]))) (s3.trans t6) hoH
      have hl8 : upd H6 o (.lst (VT (t ++ Vbktaa.line [word "again", Vbktaa.shownForm (lets ls) t1]))) l = some (.lst (VT ls)) := by rw [upd_ne hlo]; exact t6 _ _ hl3
      have ho8 : upd H6 o (.lst (VT (t ++ Vbktaa.line [word "again", Vbktaa.shownForm (lets ls) t1]))) o = some (.lst (VT (t ++ Vbktaa.line [word "again", Vbktaa.shownForm (lets ls) t1]))) := upd_same
      generalize upd H6 o (.lst (VT (t ++ Vbktaa.line [word "again", Vbktaa.shownForm (lets ls) t1]))) = H7 at s8 hl8 ho8 ⊢
      rw [en] at hok1
      refine ⟨_, rfl, .inl ⟨rfl, _, SqL.of ho8⟩, _, rfl, _, rfl, p, qa, q, rows, us1, l1, rfl, hP.mono s8, s8 _ _ hqa, hus1.mono s8, hok1, by omega, fun H8 r2 s9 hr2 hr28 => ?_⟩
      rw [hls] at hr28
      refine ⟨o, r2, _, _, rfl, rfl, s9 _ _ ho8, hr28, small' (by rw [VT_len, VT_len, List.length_append]; omega), ?_⟩
      rw [← VT_app]
      have s10 := same_put (o := .lst (VT (t ++ Vbktaa.line [word "again", Vbktaa.shownForm (lets ls) t1] ++ partsText (lets ls) l1))) (s8.trans s9) hoH
      have hl10 : upd H8 o (.lst (VT (t ++ Vbktaa.line [word "again", Vbktaa.shownForm (lets ls) t1] ++ partsText (lets ls) l1))) l = some (.lst (VT ls)) := by rw [upd_ne hlo]; exact s9 _ _ hl8
      have ho10 : upd H8 o (.lst (VT (t ++ Vbktaa.line [word "again", Vbktaa.shownForm (lets ls) t1] ++ partsText (lets ls) l1))) o = some (.lst (VT (t ++ Vbktaa.line [word "again", Vbktaa.shownForm (lets ls) t1] ++ partsText (lets ls) l1))) := upd_same
      generalize upd H8 o (.lst (VT (t ++ Vbktaa.line [word "again", Vbktaa.shownForm (lets ls) t1] ++ partsText (lets ls) l1))) = H9 at s10 hl10 ho10 ⊢
      refine ⟨_, rfl, .inl ⟨rfl, _, SqL.of ho10⟩, _, rfl, len_cps cps_end (by decide), fun H10 c3 s11 hc3 hc3' => ⟨small' (by show 1 ≤ 16000000; decide), fun p2 hp2 => ?_⟩⟩
      rw [cps_end] at hc3'
      have s12 : Same H10 (upd H10 p2 (.lst [.ref c3])) := same_new hp2
      refine ⟨p2, _, rfl, ⟨[c3], upd_same, .cons (s12 _ _ hc3') .nil⟩, one_words (by decide), fun H11 r3 s13 hr3 hr311 => ?_⟩
      have t13 := (s11.trans s12).trans s13
      refine ⟨o, r3, _, _, rfl, rfl, t13 _ _ ho10, hr311, small' (by rw [VT_len, VT_len, List.length_append, List.length_append]; omega), ?_⟩
      refine ⟨(t ++ Vbktaa.line [word "again", Vbktaa.shownForm (lets ls) t1] ++ partsText (lets ls) l1) ++ Vbktaa.line [word "end"], _, _, _, rfl, same_put (s10.trans t13) hoH, ?_, hlo, ?_, ?_⟩
      · rw [upd_ne hlo]; exact t13 _ _ hl10
      · rw [upd_same, VT_app _ (Vbktaa.line [word "end"])]
      · rw [← ht]; simp only [List.append_assoc]
  · rintro σ H2 ⟨t, v4, v5, v6, rfl, s3, hl3, hlo, ho3, ht⟩
    rw [dropP_len hIt, partsText_nil, List.append_nil] at ht
    subst ht
    exact ⟨_, rfl, kk _ o s3 hoH ho3⟩
theorem ok_parts_showns (T : Txt K mg) (D : Def K mg "parts_shown" s_parts_shown) (c_signs_of : Cal P w K mg base CX0 1 "signs_of" ["word"] spSigns) (c_line_of : Cal P w K mg base CX0 2 "line_of" ["words"] spLineOf) (c_form_shown : Cal P w K mg base CX0 2 "form_shown" ["form", "letters"] (spFormShown K))
    (c_row_line : Cal P w K mg base CX0 8 "row_line" ["row", "letters"] (spRowLine K)) (m_signs : CalM P w K mg base CX0 1 (He.ma K (He.ga K "Pattern") "signs") ["self"] (spPSigns K)) : Cal P w K mg base CX0 12 "parts_shown" ["pattern", "parts"] (spPartsShown K 3) := by
  have c0 : Cal P w K mg base CX0 8 "parts_shown" ["pattern", "parts"] (spPartsShown0 K 0) := Cal.never D (fun _ _ _ _ _ _ us hl => match us, hl with | [_, _], _ => rfl) (fun _ _ _ _ h => h)
  have c1 := ok_parts_shown (k := 8) (d := 0) (by decide) T D c_signs_of c_line_of c_form_shown c_row_line m_signs c0
  have c2 := ok_parts_shown (k := 9) (d := 1) (by decide) T D c_signs_of c_line_of c_form_shown c_row_line m_signs c1
  have c3 := ok_parts_shown (k := 10) (d := 2) (by decide) T D c_signs_of c_line_of c_form_shown c_row_line m_signs c2
  exact ok_parts_shown (k := 11) (d := 3) (by decide) T D c_signs_of c_line_of c_form_shown c_row_line m_signs c3
end
end Kn
namespace Kn
open PySem PySem.Spec PyProof.Rows L2
open Vbktaa (Form Size Item Items Part Parts itemWords itemsWords timesWords partText partsText NAMES word decimal)
theorem letter_len {s : Size} (h : SizeG s) : (letterText s).length ≤ 200 := by
  obtain ⟨nm, e, _⟩ := h.name
  have hlo := h.lo
  have hst := h.step
  have hw : ∀ w ∈ ([word "size", s.name, decimal s.lo, decimal s.step] ++ s.hi.toList.map decimal), w.length ≤ 20 := by
    intro w hw
    rcases List.mem_append.mp hw with m | m
    · simp only [List.mem_cons, List.not_mem_nil, or_false] at m
      rcases m with m | m | m | m
      · rw [m]; decide
      · rw [m, e]; show 1 ≤ 20; decide
      · rw [m]; exact decimal_short (by omega)
      · rw [m]; exact decimal_short (by omega)
    · obtain ⟨g, hg, rfl⟩ := List.mem_map.mp m
      have := h.hi g (by simpa using hg)
      exact decimal_short (by omega)
  have h1 := line_len hw
  have h2 : ([word "size", s.name, decimal s.lo, decimal s.step] ++ s.hi.toList.map decimal).length ≤ 5 := by
    rw [List.length_append, List.length_map]
    have : s.hi.toList.length ≤ 1 := by cases s.hi <;> simp
    show 4 + _ ≤ 5
    omega
  unfold letterText
  omega
theorem letters_len : ∀ (ss : List Size), SizesG ss → (ss.flatMap letterText).length ≤ 200 * ss.length
  | [], _ => Nat.le_refl _
  | s :: r, h => by
    rw [List.flatMap_cons, List.length_append, List.length_cons]
    have h1 := letter_len (h s List.mem_cons_self)
    have h2 := letters_len r fun z hz => h z (List.mem_cons_of_mem _ hz)
    omega
theorem shown_eq {q : Vbktaa.Pattern} (h : Named q.sizes) : Vbktaa.shown q = q.sizes.flatMap letterText ++ (Vbktaa.line [word "cast", Vbktaa.shownForm (lets (q.sizes.map sgn)) q.cast] ++ (partsText (lets (q.sizes.map sgn)) q.parts ++ Vbktaa.line [word "off"])) := by
  rw [h.lets]; rfl
/-- a pattern, with all that is known of one that was read -/
structure PatF (K : PySem.W.Frag) (H : Hp) (p : Addr) (q : Vbktaa.Pattern) (rows : List (List Nat × Items)) : Prop extends PatG K H p q rows where
  parts : PartsOk q.sizes.length rows q.parts 3
  few : nPs q.parts ≤ 3000
  cast : GoodF q.sizes.length q.cast
theorem PatF.mono {K : PySem.W.Frag} {H H' : Hp} {p : Addr} {q : Vbktaa.Pattern} {rows : List (List Nat × Items)} (h : PatF K H p q rows) (s : Same H H') : PatF K H' p q rows := ⟨h.toPatG.mono s, h.parts, h.few, h.cast⟩
theorem shown_len {K : PySem.W.Frag} {H : Hp} {p : Addr} {q : Vbktaa.Pattern} {rows : List (List Nat × Items)} (h : PatF K H p q rows) : (Vbktaa.shown q).length ≤ 7000000 := by
  rw [shown_eq h.letters.named]
  have h1 := letters_len _ h.sizes
  have en : (q.sizes.map sgn).length = q.sizes.length := List.length_map _
  have h2 : (q.sizes.map sgn).length ≤ 2 := by rw [en]; exact h.two
  have h3 := two_len (cast_words (ls := q.sizes.map sgn) (t := q.cast) h2 (by rw [en]; exact h.cast))
  have h4 := parts_len (ls := q.sizes.map sgn) (rows := rows) h2 (by rw [en]; exact h.rowg) q.parts 3 (by rw [en]; exact h.parts)
  have h5 := one_len (one_words (t := word "off") (by decide))
  have := h.few
  have := h.two
  simp only [List.length_append]
  omega
section
variable {P : Program} {w : World} {K : PySem.W.Frag} {mg : Str → Option Value} {base : Heap}
/-! ### pattern_shown -/
def spPatternShown (K : PySem.W.Frag) : Sp := fun vs H Q _ => ∃ (p : Addr) (q : Vbktaa.Pattern) (rows : List (List Nat × Items)), vs = [.ref p] ∧ PatF K H p q rows ∧ New H (VT (Vbktaa.shown q)) Q
theorem sc_pattern_shown : FnScope ["pattern", "found", "letter"] ["pattern"] (defScope s_pattern_shown) := ⟨rfl, rfl, rfl, by decide +kernel, rfl, by decide +kernel, by decide +kernel⟩
theorem ok_pattern_shown (T : Txt K mg) (D : Def K mg "pattern_shown" s_pattern_shown) (c_signs_of : Cal P w K mg base CX0 1 "signs_of" ["word"] spSigns) (c_line_of : Cal P w K mg base CX0 2 "line_of" ["words"] spLineOf) (c_form_shown : Cal P w K mg base CX0 2 "form_shown" ["form", "letters"] (spFormShown K))
    (c_letter_line : Cal P w K mg base CX0 3 "letter_line" ["letter"] (spLetterLine K)) (m_signs : CalM P w K mg base CX0 1 (He.ma K (He.ga K "Pattern") "signs") ["self"] (spPSigns K)) (c_parts_shown : Cal P w K mg base CX0 12 "parts_shown" ["pattern", "parts"] (spPartsShown K 3)) :
    Cal P w K mg base CX0 13 "pattern_shown" ["pattern"] (spPatternShown K) := by
  have sc := sc_pattern_shown
  refine Cal.mk' D sc (fun _ _ _ _ _ _ us hl => match us, hl with | [_], _ => rfl) (fun vs H Q E h => ?_) (fun f cdv A outer s H vs Q E hr h => ?_)
  · obtain ⟨_, _, _, rfl, _⟩ := h; rfl
  obtain ⟨p, q, rows, rfl, hP, kk⟩ := h
  refine ⟨_, PSs.nox (pss_cons (ps_set (i := 1) sc.nd rfl (Or.inl rfl) (pe_lst pa_nil))
  (pss_cons (ps_for PassesOwn.never rfl (pi_list (pe_fld (pv 0) rfl)) (pg_name (i := 2) sc.nd rfl (Or.inl rfl)) (pss_one (ps_expr (pe_bm PySem.F.plainAttrs_list PySem.F.slot_list_extend PySem.F.type_list_extend mt_extend (pv 1) (pa_cons (pe_f c_letter_line hr pass0 (pa_cons (pv 2) pa_nil)) pa_nil)))))
  (pss_cons (ps_expr (pe_bm PySem.F.plainAttrs_list PySem.F.slot_list_extend PySem.F.type_list_extend mt_extend (pv 1) (pa_cons (pe_f c_line_of hr pass0 (pa_cons (pe_lst (pa_cons (pe_f c_signs_of hr pass0 (pa_cons pe_str pa_nil)) (pa_cons (pe_f c_form_shown hr pass0 (pa_cons (pe_fld (pv 0) rfl) (pa_cons (pe_m0 (pv 0) T.cPattern T.mt_signs m_signs hr pass0) pa_nil))) pa_nil))) pa_nil)) pa_nil)))
  (pss_one (ps_ret (pe_op op_cat (pe_op op_cat (pv 1) (pe_f c_parts_shown hr pass0 (pa_cons (pv 0) (pa_cons (pe_fld (pv 0) rfl) pa_nil)))) (pe_f c_line_of hr pass0 (pa_cons (pe_lst (pa_cons (pe_f c_signs_of hr pass0 (pa_cons pe_str pa_nil)) pa_nil)) pa_nil)))))))), ?_⟩
  have hPL := hP.letters
  have en : (q.sizes.map sgn).length = q.sizes.length := List.length_map _
  have h2 : (q.sizes.map sgn).length ≤ 2 := by rw [en]; exact hP.two
  have hgc : GoodF (q.sizes.map sgn).length q.cast := by rw [en]; exact hP.cast
  have hmost := shown_len hP
  rw [shown_eq hPL.named] at hmost kk
  simp only [List.length_append] at hmost
  obtain ⟨dx, la, ca, ra, pa, las, rs, pus, h1, h3, h4, h5, h6, h7, h8, h9⟩ := hP.at_.ex
  refine ⟨small' (by decide), fun o ho => ?_⟩
  have s0 : Same H (upd H o (.lst [])) := same_new ho
  refine ⟨_, rfl, p, _, dx, _, _, rfl, s0 _ _ h1, T.cPattern, T.nPattern_letters, rfl, la, rfl, ⟨_, SqL.of (s0 _ _ h3)⟩, for_it walk_list (fun i σ H' => ∃ (v2 : Option V), σ = [some (.ref p), some (.ref o), v2] ∧ Same H H' ∧ H' o = some (.lst (VT ((q.sizes.take i).flatMap letterText))))
    ⟨none, rfl, s0, upd_same⟩ (fun i σ H' _ ⟨_, _, s, _⟩ => SqL.of (s _ _ h3)) ?_ ?_⟩
  · rintro i x σ H2 H3 hi ⟨v2, rfl, s3, ho3⟩ ⟨rfl, hx⟩
    obtain ⟨a, ha, rfl⟩ := map_get hx
    obtain ⟨z, hz, hL⟩ := paired_get h4 ha
    have hG := hP.sizes z (List.mem_of_getElem? hz)
    have hl1 := letter_len hG
    have hl2 := letters_len (q.sizes.take i) fun y hy => hP.sizes y (List.mem_of_mem_take hy)
    have hl3 : (q.sizes.take i).length ≤ 2 := by rw [List.length_take]; have := hP.two; omega
    refine ⟨_, rfl, .inl ⟨rfl, _, SqL.of ho3⟩, _, rfl, a, z, rfl, s3 _ _ hL, hG, fun H4 r s4 hr0 hr4 => ?_⟩
    refine ⟨o, r, _, _, rfl, rfl, s4 _ _ ho3, hr4, small' (by rw [VT_len, VT_len]; omega), ?_⟩
    refine ⟨_, rfl, same_put (s3.trans s4) ho, ?_⟩
    rw [upd_same, take_more hz, flatMap_snoc, VT_app]
  · rintro σ H2 ⟨v2, rfl, s3, ho3⟩
    rw [List.length_map, paired_len h4, take_all] at ho3
    refine ⟨_, rfl, .inl ⟨rfl, _, SqL.of ho3⟩, _, rfl, len_cps cps_cast (by decide), fun H4 c1 s4 hc1 hc1' => ?_⟩
    rw [cps_cast] at hc1'
    have t4 := s3.trans s4
    refine ⟨_, rfl, p, _, dx, _, _, rfl, t4 _ _ h1, T.cPattern, T.nPattern_cast, rfl, _, rfl, p, dx, _, rfl, t4 _ _ h1, rfl, p, q.sizes, rfl, hPL.mono t4, fun H5 l s5 hl hl5 => ?_⟩
    have t5 := t4.trans s5
    refine ⟨ca, l, q.cast, _, rfl, h5.mono t5, SqL.of hl5, hgc.1, by omega, hgc.2, fun H6 c2 s6 hc2 hc2' => ⟨small' (by show 2 ≤ 16000000; decide), fun p1 hp1 => ?_⟩⟩
    have s7 : Same H6 (upd H6 p1 (.lst [.ref c1, .ref c2])) := same_new hp1
    refine ⟨p1, _, rfl, ⟨[c1, c2], upd_same, .cons (s7 _ _ (s6 _ _ (s5 _ _ hc1'))) (.cons (s7 _ _ hc2') .nil)⟩, cast_words h2 hgc, fun H7 r s8 hr0 hr7 => ?_⟩
    have t8 := (s4.trans s5).trans ((s6.trans s7).trans s8)
    refine ⟨o, r, _, _, rfl, rfl, t8 _ _ ho3, hr7, small' (by rw [VT_len, VT_len]; omega), ?_⟩
    rw [← VT_app]
    generalize hU : VT (q.sizes.flatMap letterText ++ Vbktaa.line [word "cast", Vbktaa.shownForm (lets (q.sizes.map sgn)) q.cast]) = U
    have s9 := same_put (o := .lst U) (s3.trans t8) ho
    have ho9 : upd H7 o (.lst U) o = some (.lst U) := upd_same
    generalize upd H7 o (.lst U) = H8 at s9 ho9 ⊢
    have hUl : U.length = (q.sizes.flatMap letterText).length + (Vbktaa.line [word "cast", Vbktaa.shownForm (lets (q.sizes.map sgn)) q.cast]).length := by rw [← hU, VT_len, List.length_append]
    refine ⟨_, rfl, _, rfl, _, rfl, p, _, dx, _, _, rfl, s9 _ _ h1, T.cPattern, T.nPattern_parts, rfl, p, pa, q, rows, pus, q.parts, rfl, hP.toPatG.mono s9, s9 _ _ h8, h9.mono s9, hP.parts, hP.few, fun H9 r2 s10 hr2 hr29 => ?_⟩
    refine ⟨o, r2, _, _, rfl, rfl, s10 _ _ ho9, hr29, small' (by rw [VT_len, hUl]; omega), fun c3 hc3 => ?_⟩
    have s11 := same_new (o := .lst (U ++ VT (partsText (lets (q.sizes.map sgn)) q.parts))) hc3
    have hc3' : upd H9 c3 (.lst (U ++ VT (partsText (lets (q.sizes.map sgn)) q.parts))) c3 = some (.lst (U ++ VT (partsText (lets (q.sizes.map sgn)) q.parts))) := upd_same
    generalize upd H9 c3 (.lst (U ++ VT (partsText (lets (q.sizes.map sgn)) q.parts))) = H10 at s11 hc3' ⊢
    have t11 := (s9.trans s10).trans s11
    refine ⟨_, rfl, len_cps cps_off (by decide), fun H11 c4 s12 hc4 hc4' => ⟨small' (by show 1 ≤ 16000000; decide), fun p2 hp2 => ?_⟩⟩
    rw [cps_off] at hc4'
    have s13 : Same H11 (upd H11 p2 (.lst [.ref c4])) := same_new hp2
    refine ⟨p2, _, rfl, ⟨[c4], upd_same, .cons (s13 _ _ hc4') .nil⟩, one_words (by decide), fun H12 r3 s14 hr3 hr312 => ?_⟩
    have t14 := (s12.trans s13).trans s14
    refine ⟨c3, r3, _, _, rfl, rfl, t14 _ _ hc3', hr312, small' (by rw [VT_len, List.length_append, VT_len, hUl]; omega), fun c5 hc5 => ?_⟩
    have sA := t11.trans t14
    refine kk _ c5 (same_put sA (sA.free hc5)) (sA.free hc5) ?_
    rw [upd_same, ← hU, ← VT_app, ← VT_app]
    simp only [List.append_assoc]
/-! ### count_words -/
theorem eqV_int (a b : Int) : eqV (V.int a) (V.int b) = decide (a = b) := rfl
def breaks (t : List Nat) : Nat := (t.filter fun b => b == 32 || b == 10).length
def spCountWords : Sp := fun vs H Q _ => ∃ (a : Addr) (t : List Nat), vs = [.ref a] ∧ H a = some (.lst (VT t)) ∧ t.length ≤ 7000000 ∧ ∀ H', Same H H' → Q (.int (breaks t : Int)) H'
theorem sc_count_words : FnScope ["text", "byte"] ["text"] (defScope s_count_words) := ⟨rfl, rfl, rfl, by decide +kernel, rfl, by decide +kernel, by decide +kernel⟩
theorem ok_count_words (T : Txt K mg) (D : Def K mg "count_words" s_count_words) : Cal P w K mg base CX0 1 "count_words" ["text"] spCountWords := by
  have sc := sc_count_words
  refine Cal.mk' D sc (fun _ _ _ _ _ _ us hl => match us, hl with | [_], _ => rfl) (fun vs H Q E h => ?_) (fun f cdv A outer s H vs Q E hr h => ?_)
  · obtain ⟨_, _, rfl, _⟩ := h; rfl
  obtain ⟨a, t, rfl, ha, hlen, kk⟩ := h
  refine ⟨_, PSs.nox (pss_one (ps_ret (pe_callB call_len_seq (by rfl) T.f_len (by decide +kernel) (pa_cons (pe_lc (own := [("byte", 1)]) (g := gName 1) rfl sc.nd (pi_list (pv 0)) (blkOk_by (N := ["text", "byte"]) (sc := defScope s_count_words) (by decide +kernel)) (fun _ _ _ _ _ => (pg_name (i := 1) sc.nd rfl (Or.inl rfl))) (fun _ _ _ _ _ => (pts_one (pt_cmpR (show OpR _ (compareOp .In) (rIn K false) from op_in_seq) (pv 1) (pe_tup (pa_cons (pe_gi T.i_BLANK) (pa_cons (pe_gi T.i_LINE_END) pa_nil))) rfl))) (fun _ _ _ _ _ => pe_int)) pa_nil)))), ?_⟩
  refine ⟨_, rfl, a, rfl, ⟨_, SqL.of ha⟩, fun D hD => lc_it walk_list (fun i H' => Same H H' ∧ ∃ xs : List V, H' D = some (.lst xs) ∧ xs.length = breaks (t.take i)) ⟨same_new hD, [], upd_same, rfl⟩ (fun i H' _ q => SqL.of (q.1 _ _ ha)) ?_ ?_⟩
  · rintro i x H1 H2 hi ⟨s1, xs, hd, hx1⟩ ⟨rfl, hx⟩
    obtain ⟨n, hn, rfl⟩ := VT_get hx
    refine ⟨rfl, _, rfl, small' (by show 2 ≤ 16000000; decide), fun q hq => ⟨q, _, rfl, .inr (SqT.of upd_same), rfl, rfl, _, rfl, ?_⟩⟩
    have s2 := same_put (o := .tup [.int 32, .int 10]) s1 (s1.free hq)
    have nD : D ≠ q := ne_some_none hd hq |>.symm
    have eT : breaks (t.take (i + 1)) = breaks (t.take i) + if (n == 32 || n == 10) = true then 1 else 0 := by
      unfold breaks
      rw [take_more hn, List.filter_append, List.length_append]
      by_cases c : (n == 32 || n == 10) = true
      · rw [if_pos c, List.filter_cons_of_pos (p := fun b => b == 32 || b == 10) c]; rfl
      · rw [if_neg c, List.filter_cons_of_neg (p := fun b => b == 32 || b == 10) c]; rfl
    have eC : inV (V.int (n : Int)) [V.int 32, V.int 10] = (n == 32 || n == 10) := by
      show (eqV (V.int 32) (V.int (n : Int)) || (eqV (V.int 10) (V.int (n : Int)) || false)) = _
      rw [eqV_int, eqV_int, Bool.or_false]
      have h1 : decide ((32 : Int) = (n : Int)) = (n == 32) := by
        by_cases c : n = 32
        · subst c; rfl
        · rw [decide_eq_false (by omega), beq_false_of_ne c]
      have h2 : decide ((10 : Int) = (n : Int)) = (n == 10) := by
        by_cases c : n = 10
        · subst c; rfl
        · rw [decide_eq_false (by omega), beq_false_of_ne c]
      rw [h1, h2]
    have hx2 : breaks (t.take i) ≤ t.length := by
      have h1 : breaks (t.take i) ≤ (t.take i).length := List.length_filter_le _ _
      rw [List.length_take] at h1
      omega
    by_cases c : (n == 32 || n == 10) = true
    · refine if_true_of (eC.trans c) ?_
      refine ⟨_, put_at hq hd, small (by omega), same_put s2 hD, _, upd_same, ?_⟩
      rw [List.length_append, eT, if_pos c, hx1]; rfl
    · refine if_false_of (eC.trans (by simpa using c)) ?_
      refine ⟨s2, xs, put_at hq hd, ?_⟩
      rw [eT, if_neg c, hx1]; rfl
  · rintro H1 ⟨s1, xs, hd, hx1⟩
    rw [VT_len, take_all] at hx1
    refine ⟨D, _, rfl, .inl (SqL.of hd), ?_⟩
    rw [hx1]
    exact kk _ s1
end
end Kn
namespace Kn
open PySem PySem.Spec PyProof.Rows L2
open Vbktaa (runsOf NAMES word decimal)
/-! ### pairs in a list -/
def dR (x : Nat × Nat) : PyData := .tuple [.int (x.1 : Int), .int (x.2 : Int)]
def dRs (l : List (Nat × Nat)) : List PyData := l.map dR
theorem dRs_lay : ∀ l : List (Nat × Nat), PyData.canLayAll0 (dRs l) = true
  | [] => by simp [dRs, PyData.canLayAll0]
  | z :: zs => by
    have ih := dRs_lay zs
    have h1 : PyData.canLay0 (dR z) = true := by
      unfold dR
      simp [PyData.canLay0, PyData.canLayAll0]
    unfold dRs at ih ⊢
    rw [List.map_cons, PyData.canLayAll0, h1, ih]; rfl
theorem dRs_depth : ∀ l : List (Nat × Nat), PyData.depthAll (dRs l) ≤ 2
  | [] => by simp [dRs, PyData.depthAll]
  | z :: zs => by
    have h1 := dRs_depth zs
    unfold dRs at h1 ⊢
    have h3 : PyData.depth (dR z) ≤ 2 := by
      unfold dR
      simp [PyData.depth, PyData.depthAll]
    simp only [List.map_cons, PyData.depthAll]
    omega
theorem dRs_shaped (l : List (Nat × Nat)) : SeqAt.shaped (.list (dRs l)) = true := by
  have h1 := dRs_depth l
  have h2 : PyData.depth (.list (dRs l)) ≤ 64 := by simp only [PyData.depth]; omega
  show (PyData.canLay0 (.list (dRs l)) && decide (PyData.depth (.list (dRs l)) ≤ 64)) = true
  rw [Bool.and_eq_true]
  exact ⟨by simp only [PyData.canLay0]; exact dRs_lay l, decide_eq_true h2⟩
def RunAt (H : Hp) (a : Addr) (x : Nat × Nat) : Prop := H a = some (.tup [.int (x.1 : Int), .int (x.2 : Int)])
theorem dRs_dp {K : PySem.W.Frag} {H : Hp} : ∀ {as : List Addr} {l : List (Nat × Nat)}, Paired (RunAt H) as l → DpAll K H (as.map V.ref) (dRs l)
  | _, _, .nil => .nil
  | _, _, .cons r t => .cons (.tup (SqT.of r) (.cons (.int _) (.cons (.int _) .nil))) (dRs_dp t)
theorem dRs_nil (l : List (Nat × Nat)) : PyData.eqv (.list (dRs l)) (.list (dRs [])) = l.isEmpty := by
  rw [PyData.eqv]
  cases l with
  | nil => rfl
  | cons a l => rfl
theorem run_keep {H H' : Hp} {o : Addr} {xs : List V} (ho : H o = some (.lst xs)) (s : ∀ c u, c ≠ o → H c = some u → H' c = some u) {as : List Addr} {l : List (Nat × Nat)} (h : Paired (RunAt H) as l) : Paired (RunAt H') as l :=
  paired_mono (fun a x r => s a _ (fun e => by rw [e] at r; have r' : H o = some (.tup [.int (x.1 : Int), .int (x.2 : Int)]) := r; rw [ho] at r'; cases r') r) h
section
variable {P : Program} {w : World} {K : PySem.W.Frag} {mg : Str → Option Value} {base : Heap}
/-! ### runs_of -/
def spRuns : Sp := fun vs H Q _ => ∃ (a : Addr) (l : List Nat), vs = [.ref a] ∧ H a = some (.lst (VT l)) ∧ l.length ≤ 1500 ∧ ∀ (H' : Hp) (p : Addr) (as : List Addr), Same H H' → H p = none → H' p = some (.lst (as.map V.ref)) → Paired (RunAt H') as (runsOf l) → Q (.ref p) H'
theorem sc_runs_of : FnScope ["stitches", "found", "stitch"] ["stitches"] (defScope s_runs_of) := ⟨rfl, rfl, rfl, by decide +kernel, rfl, by decide +kernel, by decide +kernel⟩
theorem ok_runs_of (T : Txt K mg) (D : Def K mg "runs_of" s_runs_of) : Cal P w K mg base CX0 1 "runs_of" ["stitches"] spRuns := by
  have sc := sc_runs_of
  refine Cal.mk' D sc (fun _ _ _ _ _ _ us hl => match us, hl with | [_], _ => rfl) (fun vs H Q E h => ?_) (fun f cdv A outer s H vs Q E hr h => ?_)
  · obtain ⟨_, _, rfl, _⟩ := h; rfl
  obtain ⟨a, l, rfl, ha, hl, kk⟩ := h
  refine ⟨_, PSs.nox (pss_cons (ps_set (i := 1) sc.nd rfl (Or.inl rfl) (pe_lst pa_nil))
  (pss_cons (ps_for PassesOwn.never rfl (pi_list (pv 0)) (pg_name (i := 2) sc.nd rfl (Or.inl rfl)) (pss_one (ps_if (PW.pt (pw_and (pt_cmpR (op_neD hr.units) (pv 1) (pe_lst pa_nil) (nomark _)) (pw_and1 (pt_cmpR op_eq (pe_ix ix_tup (pe_ix ix_list (pv 1) (pe_un un_neg pe_int) (fun _ _ => rfl)) pe_int (fun _ _ => rfl)) (pv 2) (nomark _))))) (pss_one (ps_asg (pe_tup (pa_cons (pv 2) (pa_cons (pe_op op_add (pe_ix ix_tup (pe_ix ix_list (pv 1) (pe_un un_neg pe_int) (fun _ _ => rfl)) pe_int (fun _ _ => rfl)) pe_int) pa_nil))) (pg_sub (pv 1) (pe_un un_neg pe_int) set_list))) (pss_one (ps_expr (pe_bm PySem.F.plainAttrs_list PySem.F.slot_list_append PySem.F.type_list_append mt_append (pv 1) (pa_cons (pe_tup (pa_cons (pv 2) (pa_cons pe_int pa_nil))) pa_nil)))))))
  (pss_one (ps_ret (pv 1))))), ?_⟩
  refine ⟨small' (by decide), fun o ho => ?_⟩
  have s0 : Same H (upd H o (.lst [])) := same_new ho
  refine ⟨_, rfl, a, rfl, ⟨_, SqL.of (s0 _ _ ha)⟩, for_it walk_list (fun i σ H' => ∃ (as : List Addr) (v2 : Option V), σ = [some (.ref a), some (.ref o), v2] ∧ Same H H' ∧ H' o = some (.lst (as.map V.ref)) ∧ Paired (RunAt H') as (runsOf (l.take i)))
    ⟨[], none, rfl, s0, upd_same, .nil⟩ (fun i σ H' _ ⟨_, _, _, s, _⟩ => SqL.of (s _ _ ha)) ?_ ?_⟩
  · rintro i x σ H1 H2 hi ⟨as, v2, rfl, s1, ho1, hP⟩ ⟨rfl, hx⟩
    obtain ⟨n, hn, rfl⟩ := VT_get hx
    rw [VT_len] at hi
    have hlen := paired_len hP
    have hrl := (runs_len (l.take i)).1
    rw [List.length_take] at hrl
    have eR : runsOf (l.take (i + 1)) = snocRun n (runsOf (l.take i)) := by rw [take_more hn]; exact runs_snoc n _
    refine ⟨_, rfl, small' (by decide), fun q hq => ?_⟩
    have s2 := same_new (o := HO.lst []) hq
    have hP2 : Paired (RunAt (upd H2 q (.lst []))) as (runsOf (l.take i)) := paired_mono (fun _ _ r => s2 _ _ r) hP
    have ho2 := s2 _ _ ho1
    have hq2 : upd H2 q (.lst []) q = some (.lst []) := upd_same
    have t2 := s1.trans s2
    generalize upd H2 q (.lst []) = G at s2 hP2 ho2 hq2 t2 ⊢
    refine ⟨.list (dRs (runsOf (l.take i))), .list (dRs []), .lst (SqL.of ho2) (dRs_dp hP2), .lst (SqL.of hq2) .nil, dRs_shaped _, dRs_shaped _, ?_⟩
    rw [dRs_nil]
    refine ⟨_, rfl, ?_⟩
    have hroom : (as.map V.ref).length < sizeLine := small (by rw [List.length_map]; omega)
    -- a new run
    have fin : runsOf (l.take (i + 1)) = runsOf (l.take i) ++ [(n, 1)] → ∀ tp, G tp = none → Same H (upd (upd G tp (.tup [.int (n : Int), .int 1])) o (.lst (as.map V.ref ++ [.ref tp]))) ∧ upd (upd G tp (.tup [.int (n : Int), .int 1])) o (.lst (as.map V.ref ++ [.ref tp])) o = some (.lst ((as ++ [tp]).map V.ref)) ∧
        Paired (RunAt (upd (upd G tp (.tup [.int (n : Int), .int 1])) o (.lst (as.map V.ref ++ [.ref tp])))) (as ++ [tp]) (runsOf (l.take (i + 1))) := by
      intro e tp htp
      have s3 : Same G (upd G tp (.tup [.int (n : Int), .int 1])) := same_new htp
      refine ⟨same_put (t2.trans s3) ho, by rw [upd_same, List.map_append]; rfl, ?_⟩
      rw [e]
      refine run_keep (H := upd G tp (.tup [.int (n : Int), .int 1])) (s3 _ _ ho2) (fun c u hc h => by rw [upd_ne hc]; exact h) ?_
      exact paired_snoc (show RunAt _ tp (n, 1) from upd_same) (paired_mono (fun _ _ r => s3 _ _ r) hP2)
    rcases List.eq_nil_or_concat (runsOf (l.take i)) with e0 | ⟨L, ⟨t, m⟩, e0⟩
    · have eF := eR
      rw [e0] at eR
      refine if_false_of (by rw [e0]; rfl) (if_false_of rfl ?_)
      refine ⟨_, rfl, .inl ⟨rfl, _, SqL.of ho2⟩, _, rfl, small' (by show 2 ≤ 16000000; decide), fun tp htp => ⟨o, _, _, rfl, rfl, put_at htp ho2, hroom, ?_⟩⟩
      obtain ⟨f1, f2, f3⟩ := fin (by rw [eR, e0]; rfl) tp htp
      exact ⟨_, _, rfl, f1, f2, f3⟩
    · rw [List.concat_eq_append] at e0
      rw [e0, snoc_last] at eR
      have hpos : 0 < as.length := by rw [hlen, e0]; simp
      obtain ⟨as', c, eas⟩ : ∃ as' c, as = as' ++ [c] := ⟨as.dropLast, as.getLast (fun e => by rw [e] at hpos; cases hpos), (List.dropLast_concat_getLast _).symm⟩
      have hc : G c = some (.tup [.int (t : Int), .int (m : Int)]) := by
        obtain ⟨y, hy, hR⟩ := paired_get hP2 (i := as'.length) (a := c) (by rw [eas, List.getElem?_append_right (Nat.le_refl _), Nat.sub_self]; rfl)
        have hl' : as'.length = L.length := by
          have := hlen
          rw [eas, e0] at this
          simpa using this
        rw [e0, hl', List.getElem?_append_right (Nat.le_refl _), Nat.sub_self] at hy
        cases hy
        exact hR
      have hat : atI (as.map V.ref) (-1) = some (.ref c) := by rw [eas, List.map_append]; exact atI_last _ _
      refine if_true_of (by rw [e0]; simp) ?_
      refine ⟨_, rfl, _, rfl, o, _, _, _, rfl, rfl, SqL.of ho2, hat, c, _, _, _, rfl, rfl, SqT.of hc, atI_nat (j := 0) rfl, _, rfl, rfl, _, rfl, ?_⟩
      by_cases ct : t = n
      · refine if_true_of (decide_eq_true (by rw [ct])) ?_
        subst ct
        rw [if_pos rfl] at eR
        refine ⟨_, rfl, _, rfl, _, rfl, o, _, _, _, rfl, rfl, SqL.of ho2, hat, c, _, _, _, rfl, rfl, SqT.of hc, atI_nat (j := 1) rfl, _, _, rfl, rfl, small' (by show 2 ≤ 16000000; decide), fun tp htp => ?_⟩
        have s3 : Same G (upd G tp (.tup [.int (t : Int), .int ((m : Int) + 1)])) := same_new htp
        have hal : as.length = as'.length + 1 := by rw [eas]; simp
        refine ⟨_, rfl, _, rfl, o, _, _, as'.length, rfl, rfl, s3 _ _ ho2, ?_, ?_⟩
        · rw [List.length_map, hal]
          unfold ixN
          rw [if_neg (by decide), if_pos (by omega)]
          congr 1
          omega
        · have hset : (as.map V.ref).set as'.length (.ref tp) = (as' ++ [tp]).map V.ref := by
            rw [eas, List.map_append, List.map_append, List.set_append_right _ _ (by rw [List.length_map]; exact Nat.le_refl _), List.length_map, Nat.sub_self]; rfl
          rw [hset]
          refine ⟨as' ++ [tp], _, rfl, same_put (t2.trans s3) ho, upd_same, ?_⟩
          rw [eR]
          refine run_keep (H := upd G tp (.tup [.int (t : Int), .int ((m : Int) + 1)])) (s3 _ _ ho2) (fun c u hc h => by rw [upd_ne hc]; exact h) ?_
          have hi := paired_init hP2
          rw [eas, e0, List.dropLast_concat, List.dropLast_concat] at hi
          exact paired_snoc (show RunAt _ tp (t, m + 1) from upd_same) (paired_mono (fun _ _ r => s3 _ _ r) hi)
      · refine if_false_of (decide_eq_false (fun e => ct (by have := V.int.inj e; omega))) ?_
        rw [if_neg ct] at eR
        refine ⟨_, rfl, .inl ⟨rfl, _, SqL.of ho2⟩, _, rfl, small' (by show 2 ≤ 16000000; decide), fun tp htp => ⟨o, _, _, rfl, rfl, put_at htp ho2, hroom, ?_⟩⟩
        obtain ⟨f1, f2, f3⟩ := fin (by rw [eR, e0]; simp) tp htp
        exact ⟨_, _, rfl, f1, f2, f3⟩
  · rintro σ H1 ⟨as, v2, rfl, s1, ho1, hP⟩
    rw [VT_len, take_all] at hP
    exact ⟨_, rfl, kk _ o as s1 ho ho1 hP⟩
end
end Kn
namespace Kn
open PySem PySem.Spec PyProof.Rows L2
open Vbktaa (runsOf NAMES word decimal itemsWords itemsOf flatRows)
def flatLine (i : Nat) (l : List Nat) : List Nat := Vbktaa.line (word "row" :: (word "r" ++ decimal i) :: itemsWords [] (itemsOf (runsOf l)))
theorem stitch_name {s : Nat} (h : s < 8) : ∃ z : Str, (nameS.map V.str)[s]? = some (.str z) ∧ z.cps.toList = NAMES.getD s [] ∧ (NAMES.getD s []).length ≤ 20 := by
  have e : nameS.map (fun z => z.cps.toList) = NAMES := nameS_are
  have hl : s < nameS.length := h
  have hNl : ∀ s < 8, (NAMES.getD s []).length ≤ 20 := by decide
  refine ⟨nameS[s], ?_, ?_, hNl s h⟩
  · rw [List.getElem?_map, List.getElem?_eq_getElem hl]; rfl
  · rw [← e, List.getD_eq_getElem?_getD, List.getElem?_map, List.getElem?_eq_getElem hl]; rfl
theorem dec_str (n : Nat) : (Str.ofString (toString (n : Int))).cps.toList = decimal n := by rw [signs_str]; rfl
theorem dec_log {n : Nat} (h : n ≤ 9999) : (n : Int).natAbs.log2 < 1920 := log_small (by rw [Int.natAbs_natCast]; exact h)
theorem dec_size {n : Nat} (h : n ≤ 9999) : (Str.ofString (toString (n : Int))).cps.size ≤ 1000 := str_size (by rw [Int.natAbs_natCast]; exact h)
theorem r_dec (n : Nat) : (Str.ofString "r" ++ Str.ofString (toString (n : Int))).cps.toList = word "r" ++ decimal n := by
  rw [PySem.Str.cps_append, Array.toList_append, dec_str]
  congr 1
theorem flat_all {l : List Nat} (h8 : ∀ s ∈ l, s < 8) : itemsWords [] (itemsOf (runsOf l)) = (runsOf l).flatMap runWords := flat_words _ fun x hx => (runs_ok l h8 x hx).2
theorem runWords_short {x : Nat × Nat} (h : x.1 < 8) (h2 : x.2 ≤ 9999) : ∀ w ∈ runWords x, w.length ≤ 20 := by
  intro w hw
  obtain ⟨_, _, _, h20⟩ := stitch_name h
  unfold runWords at hw
  rcases List.mem_cons.mp hw with e | m
  · rw [e]; exact h20
  · by_cases c : 1 < x.2
    · rw [if_pos c] at m
      rw [List.mem_singleton.mp m]; exact decimal_short h2
    · rw [if_neg c] at m; cases m
theorem runWords_few (x : Nat × Nat) : (runWords x).length ≤ 2 := by
  unfold runWords
  by_cases c : 1 < x.2
  · rw [if_pos c]; exact Nat.le_refl _
  · rw [if_neg c]; exact Nat.le_succ _
theorem runs_few : ∀ L : List (Nat × Nat), (L.flatMap runWords).length ≤ 2 * L.length
  | [] => Nat.le_refl _
  | x :: r => by
    rw [List.flatMap_cons, List.length_append, List.length_cons]
    have := runWords_few x
    have := runs_few r
    omega
theorem flat_ok {i : Nat} {l : List Nat} (hi : i ≤ 9999) (hl : l.length ≤ 1500) (h8 : ∀ s ∈ l, s < 8) : Words (word "row" :: (word "r" ++ decimal i) :: itemsWords [] (itemsOf (runsOf l))) := by
  rw [flat_all h8]
  refine ⟨fun w hw => ?_, ?_⟩
  · rcases List.mem_cons.mp hw with e | m
    · rw [e]; decide
    · rcases List.mem_cons.mp m with e | m
      · rw [e, List.length_append]
        have := decimal_len hi
        show 1 + _ ≤ 20
        omega
      · obtain ⟨x, hx, hw2⟩ := List.mem_flatMap.mp m
        have h1 := runs_most hx
        exact runWords_short (runs_ok l h8 x hx).1 (by omega) w hw2
  · have h1 := runs_few (runsOf l)
    have h2 := (runs_len l).1
    simp only [List.length_cons]
    omega
theorem flatLine_len {i : Nat} {l : List Nat} (hi : i ≤ 9999) (hl : l.length ≤ 1500) (h8 : ∀ s ∈ l, s < 8) : (flatLine i l).length ≤ 70000 := by
  have h0 := line_len (flat_ok hi hl h8).1
  rw [flat_all h8] at h0
  have h1 := runs_few (runsOf l)
  have h2 := (runs_len l).1
  unfold flatLine
  rw [flat_all h8]
  simp only [List.length_cons] at h0
  omega
theorem flatRows_snoc (r : Nat × List Nat) : ∀ (l : List (Nat × List Nat)) (i : Nat), flatRows i (l ++ [r]) = flatRows i l ++ flatLine (i + l.length + 1) r.2
  | [], i => by
    show flatRows i [r] = flatRows i [] ++ _
    rw [flatRows, flatRows, flatRows, List.append_nil, List.nil_append]; rfl
  | a :: l, i => by
    rw [List.cons_append, flatRows, flatRows, flatRows_snoc r l (i + 1), List.append_assoc]
    congr 3
    rw [List.length_cons]; omega
theorem flatRows_len : ∀ (l : List (Nat × List Nat)) (i : Nat), i + l.length ≤ 9999 → (∀ r ∈ l, r.2.length ≤ 1500 ∧ ∀ s ∈ r.2, s < 8) → (flatRows i l).length ≤ 70000 * l.length
  | [], i, _, _ => by rw [flatRows]; exact Nat.zero_le _
  | a :: l, i, hi, h => by
    rw [List.length_cons] at hi
    rw [flatRows, List.length_append, List.length_cons]
    have ha := h a List.mem_cons_self
    have h1 : (flatLine (i + 1) a.2).length ≤ 70000 := flatLine_len (by omega) ha.1 ha.2
    have h2 := flatRows_len l (i + 1) (by omega) fun r hr => h r (List.mem_cons_of_mem _ hr)
    have h3 : (Vbktaa.line (word "row" :: (word "r" ++ decimal (i + 1)) :: itemsWords [] (itemsOf (runsOf a.2)))).length ≤ 70000 := h1
    omega
section
variable {P : Program} {w : World} {K : PySem.W.Frag} {mg : Str → Option Value} {base : Heap}
/-! ### flat_row -/
def spFlatRow : Sp := fun vs H Q _ => ∃ (i : Nat) (a : Addr) (l : List Nat), vs = [.int (i : Int), .ref a] ∧ H a = some (.lst (VT l)) ∧ i ≤ 9999 ∧ l.length ≤ 1500 ∧ (∀ s ∈ l, s < 8) ∧ New H (VT (flatLine i l)) Q
theorem sc_flat_row : FnScope ["number", "stitches", "words", "stitch", "many"] ["number", "stitches"] (defScope s_flat_row) := ⟨rfl, rfl, rfl, by decide +kernel, rfl, by decide +kernel, by decide +kernel⟩
theorem ok_flat_row (T : Txt K mg) (D : Def K mg "flat_row" s_flat_row) (c_signs_of : Cal P w K mg base CX0 1 "signs_of" ["word"] spSigns) (c_line_of : Cal P w K mg base CX0 2 "line_of" ["words"] spLineOf) (c_runs_of : Cal P w K mg base CX0 1 "runs_of" ["stitches"] spRuns) :
    Cal P w K mg base CX0 3 "flat_row" ["number", "stitches"] spFlatRow := by
  have sc := sc_flat_row
  refine Cal.mk' D sc (fun _ _ _ _ _ _ us hl => match us, hl with | [_, _], _ => rfl) (fun vs H Q E h => ?_) (fun f cdv A outer s H vs Q E hr h => ?_)
  · obtain ⟨_, _, _, rfl, _⟩ := h; rfl
  obtain ⟨i, a, l, rfl, ha, hi, hl, h8, kk⟩ := h
  refine ⟨_, PSs.nox (pss_cons (ps_set (i := 2) sc.nd rfl (Or.inl rfl) (pe_lst (pa_cons (pe_f c_signs_of hr pass0 (pa_cons pe_str pa_nil)) (pa_cons (pe_f c_signs_of hr pass0 (pa_cons (pe_op op_add_str pe_str (pe_callTy call_str_int (by rfl) T.f_str (by decide +kernel) (pa_cons (pv 0) pa_nil))) pa_nil)) pa_nil))))
  (pss_cons (ps_for PassesOwn.never rfl (pi_list (pe_f c_runs_of hr pass0 (pa_cons (pv 1) pa_nil))) (pg_tup rfl (pgs_cons (pg_name (i := 3) sc.nd rfl (Or.inl rfl)) (pgs_cons (pg_name (i := 4) sc.nd rfl (Or.inl rfl)) pgs_nil))) (pss_cons (ps_expr (pe_bm PySem.F.plainAttrs_list PySem.F.slot_list_append PySem.F.type_list_append mt_append (pv 2) (pa_cons (pe_f c_signs_of hr pass0 (pa_cons (pe_ix ix_tup (pe_gr T.g_STITCHES) (pv 3) (fun _ _ => rfl)) pa_nil)) pa_nil)))
    (pss_one (ps_if (pt_cmpR op_gt (pv 4) pe_int (nomark _)) (pss_one (ps_expr (pe_bm PySem.F.plainAttrs_list PySem.F.slot_list_append PySem.F.type_list_append mt_append (pv 2) (pa_cons (pe_f c_signs_of hr pass0 (pa_cons (pe_callTy call_str_int (by rfl) T.f_str (by decide +kernel) (pa_cons (pv 4) pa_nil)) pa_nil)) pa_nil)))) pss_nil))))
  (pss_one (ps_ret (pe_f c_line_of hr pass0 (pa_cons (pv 2) pa_nil)))))), ?_⟩
  have hFW := flat_ok hi hl h8
  unfold flatLine at kk
  rw [flat_all h8] at kk hFW
  refine ⟨_, rfl, len_cps cps_row (by decide), fun H1 c1 s1 hc1 hc1' => ⟨_, rfl, _, rfl, dec_log hi, _, _, rfl, rfl, ?_, _, rfl, ?_, fun H2 c2 s2 hc2 hc2' => ⟨small' (by show 2 ≤ 16000000; decide), fun o ho => ?_⟩⟩⟩
  · refine small' ?_
    have h1 := dec_size hi
    show 1 + (Str.ofString (toString (i : Int))).cps.size ≤ _
    omega
  · refine len_cps (r_dec i) ?_
    rw [List.length_append]
    have := decimal_len hi
    show 1 + _ ≤ _
    omega
  rw [cps_row] at hc1'
  rw [r_dec] at hc2'
  have C0 : Coll none0 H2 (upd H2 o (.lst [.ref c1, .ref c2])) o [word "row", word "r" ++ decimal i] := Coll.new same0 ho (as := [c1, c2]) rfl (.cons (s2 _ _ hc1') (.cons hc2' .nil))
  have s3 : Same H (upd H2 o (.lst [.ref c1, .ref c2])) := (s1.trans s2).trans (same_new ho)
  have hoH : H o = none := (s1.trans s2).free ho
  have ho2 : upd H2 o (.lst [.ref c1, .ref c2]) o = some (.lst [.ref c1, .ref c2]) := upd_same
  generalize upd H2 o (.lst [.ref c1, .ref c2]) = H3 at C0 s3 ho2 ⊢
  refine ⟨_, rfl, a, l, rfl, s3 _ _ ha, hl, fun H4 p rs s4 hp hp4 hR => ?_⟩
  have hlenR := paired_len hR
  have npo : p ≠ o := ne_some_none ho2 hp
  have hmax := (runs_len l).1
  refine ⟨p, rfl, ⟨_, SqL.of hp4⟩, for_it walk_list (fun j σ H' => ∃ (F : Hp) (ws : List (List Nat)) (v3 v4 : Option V), σ = [some (.int (i : Int)), some (.ref a), some (.ref o), v3, v4] ∧ Same H H' ∧ Coll none0 F H' o ws ∧ H' p = some (.lst (rs.map V.ref)) ∧ Paired (RunAt H') rs (runsOf l) ∧ ws = word "row" :: (word "r" ++ decimal i) :: ((runsOf l).take j).flatMap runWords)
    ⟨_, _, none, none, rfl, s3.trans s4, C0.up s4, hp4, hR, rfl⟩ (fun i σ H' _ ⟨_, _, _, _, _, _, _, hp, _⟩ => SqL.of hp) ?_ ?_⟩
  · rintro j x σ H5 H6 hj ⟨F, ws, v3, v4, rfl, s5, C, hp5, hR5, hws⟩ ⟨rfl, hx⟩
    obtain ⟨c, hc, rfl⟩ := map_get hx
    obtain ⟨y, hy, hcy⟩ := paired_get hR5 hc
    obtain ⟨y8, y1⟩ := runs_ok l h8 y (List.mem_of_getElem? hy)
    have ymost := runs_most (List.mem_of_getElem? hy)
    obtain ⟨z, hz, hzs, h20⟩ := stitch_name y8
    obtain ⟨as, ha5, hat⟩ := C.ex
    have el := paired_len hat
    have ewl : ws.length ≤ 2 + 2 * j := by
      rw [hws]
      have := runs_few ((runsOf l).take j)
      rw [List.length_take] at this
      simp only [List.length_cons]
      omega
    have hj2 : j < (runsOf l).length := by rw [List.length_map, hlenR] at hj; exact hj
    have eT : ((runsOf l).take (j + 1)).flatMap runWords = ((runsOf l).take j).flatMap runWords ++ runWords y := by rw [take_more hy, flatMap_snoc]
    refine ⟨c, _, rfl, SqT.of hcy, rfl, _, _, rfl, _, _, rfl, rfl, ?_⟩
    refine ⟨_, rfl, .inl ⟨rfl, _, SqL.of ha5⟩, _, rfl, _, _, _, _, rfl, rfl, T.t_STITCHES _, atI_nat (j := y.1) hz, z, rfl, len_cps hzs (by omega), fun H7 d1 s7 hd1 hd1' => ⟨o, _, _, rfl, rfl, s7 _ _ ha5, small (by rw [List.length_map]; omega), ?_⟩⟩
    rw [hzs] at hd1'
    have C1 : Coll none0 _ (upd H7 o (.lst (as.map V.ref ++ [.ref d1]))) o _ := C.more (bs := [d1]) (us := [NAMES.getD y.1 []]) s7 (s7 _ _ ha5) (.cons (off_at hd1 hd1') .nil)
    have t7 : Same H (upd H7 o (.lst (as.map V.ref ++ [.ref d1]))) := same_put (s5.trans s7) hoH
    have hp7 : upd H7 o (.lst (as.map V.ref ++ [.ref d1])) p = some (.lst (rs.map V.ref)) := by rw [upd_ne npo]; exact s7 _ _ hp5
    have hR7 : Paired (RunAt (upd H7 o (.lst (as.map V.ref ++ [.ref d1])))) rs (runsOf l) := run_keep (s7 _ _ ha5) (fun c u hc h => by rw [upd_ne hc]; exact h) (paired_mono (fun _ _ r => s7 _ _ r) hR5)
    have ha7 : upd H7 o (.lst (as.map V.ref ++ [.ref d1])) o = some (.lst ((as ++ [d1]).map V.ref)) := by rw [upd_same, List.map_append]; rfl
    generalize upd H7 o (.lst (as.map V.ref ++ [.ref d1])) = H8 at C1 t7 hp7 hR7 ha7 ⊢
    refine ⟨_, rfl, _, _, rfl, rfl, _, rfl, ?_⟩
    by_cases cm : 1 < y.2
    · refine if_true_of (decide_eq_true (by omega)) ?_
      refine ⟨_, rfl, .inl ⟨rfl, _, SqL.of ha7⟩, _, rfl, _, rfl, dec_log (by omega), _, rfl, dec_size (by omega), fun H9 d2 s9 hd2 hd2' => ⟨o, _, _, rfl, rfl, s9 _ _ ha7, small (by rw [List.length_map, List.length_append, List.length_singleton]; omega), ?_⟩⟩
      rw [dec_str] at hd2'
      have C2 := C1.more (bs := [d2]) (us := [decimal y.2]) s9 (s9 _ _ ha7) (.cons (off_at hd2 hd2') .nil)
      refine ⟨_, _, _, _, rfl, same_put (t7.trans s9) hoH, C2, ?_, ?_, ?_⟩
      · rw [upd_ne npo]; exact s9 _ _ hp7
      · exact run_keep (s9 _ _ ha7) (fun c u hc h => by rw [upd_ne hc]; exact h) (paired_mono (fun _ _ r => s9 _ _ r) hR7)
      · rw [eT, hws]
        unfold runWords
        rw [if_pos cm]
        simp
    · refine if_false_of (decide_eq_false (by omega)) ?_
      refine ⟨_, _, _, _, rfl, t7, C1, hp7, hR7, ?_⟩
      rw [eT, hws]
      unfold runWords
      rw [if_neg cm]
      simp
  · rintro σ H5 ⟨F, ws, v3, v4, rfl, s5, C, hp5, hR5, hws⟩
    rw [List.length_map, hlenR, take_all] at hws
    subst hws
    refine ⟨_, rfl, o, _, rfl, (Tx.coll C).plain, hFW, fun H6 q s6 hq hq6 => ?_⟩
    exact kk H6 q (s5.trans s6) (s5.free hq) hq6
end
end Kn
namespace Kn
open PySem PySem.Spec PyProof.Rows L2
open Vbktaa (runsOf NAMES word decimal itemsWords itemsOf flatRows)
def flatT (c : Nat) (done : List (Nat × List Nat)) : List Nat := Vbktaa.line [word "cast", decimal c] ++ (flatRows 0 done ++ Vbktaa.line [word "off"])
theorem castd_words {c : Nat} (h : c ≤ 9999) : Words [word "cast", decimal c] := by
  refine ⟨fun w hw => ?_, by show 2 ≤ 100000; decide⟩
  simp only [List.mem_cons, List.not_mem_nil, or_false] at hw
  rcases hw with e | e
  · rw [e]; decide
  · rw [e]; exact decimal_short h
section
variable {P : Program} {w : World} {K : PySem.W.Frag} {mg : Str → Option Value} {base : Heap}
/-! ### flat -/
def spFlat : Sp := fun vs H Q _ => ∃ (c : Nat) (d : Addr) (ds : List Addr) (done : List (Nat × List Nat)), vs = [.int (c : Int), .ref d] ∧ H d = some (.lst (ds.map V.ref)) ∧ Paired (DoneAt H) ds done ∧ c ≤ 9999 ∧ done.length ≤ 20 ∧ (∀ r ∈ done, r.2.length ≤ 1500 ∧ ∀ s ∈ r.2, s < 8) ∧ New H (VT (flatT c done)) Q
theorem sc_flat : FnScope ["cast", "done", "found", "at", "number", "stitches"] ["cast", "done"] (defScope s_flat) := ⟨rfl, rfl, rfl, by decide +kernel, rfl, by decide +kernel, by decide +kernel⟩
theorem ok_flat (T : Txt K mg) (D : Def K mg "flat" s_flat) (c_signs_of : Cal P w K mg base CX0 1 "signs_of" ["word"] spSigns) (c_line_of : Cal P w K mg base CX0 2 "line_of" ["words"] spLineOf) (c_flat_row : Cal P w K mg base CX0 3 "flat_row" ["number", "stitches"] spFlatRow) :
    Cal P w K mg base CX0 4 "flat" ["cast", "done"] spFlat := by
  have sc := sc_flat
  refine Cal.mk' D sc (fun _ _ _ _ _ _ us hl => match us, hl with | [_, _], _ => rfl) (fun vs H Q E h => ?_) (fun f cdv A outer s H vs Q E hr h => ?_)
  · obtain ⟨_, _, _, _, rfl, _⟩ := h; rfl
  obtain ⟨c, d, ds, done, rfl, hd, hD, hc, h20, hall, kk⟩ := h
  refine ⟨_, PSs.nox (pss_cons (ps_set (i := 2) sc.nd rfl (Or.inl rfl) (pe_f c_line_of hr pass0 (pa_cons (pe_lst (pa_cons (pe_f c_signs_of hr pass0 (pa_cons pe_str pa_nil)) (pa_cons (pe_f c_signs_of hr pass0 (pa_cons (pe_callTy call_str_int (by rfl) T.f_str (by decide +kernel) (pa_cons (pv 0) pa_nil)) pa_nil)) pa_nil))) pa_nil)))
  (pss_cons (ps_for PassesOwn.never rfl (pi_enum (by rfl) T.f_enumerate (pa_cons (pv 1) pa_nil)) (pg_tup rfl (pgs_cons (pg_name (i := 3) sc.nd rfl (Or.inl rfl)) (pgs_cons (pg_tup rfl (pgs_cons (pg_name (i := 4) sc.nd rfl (Or.inl rfl)) (pgs_cons (pg_name (i := 5) sc.nd rfl (Or.inl rfl)) pgs_nil))) pgs_nil))) (pss_one (ps_expr (pe_bm PySem.F.plainAttrs_list PySem.F.slot_list_extend PySem.F.type_list_extend mt_extend (pv 2) (pa_cons (pe_f c_flat_row hr pass0 (pa_cons (pe_op op_add (pv 3) pe_int) (pa_cons (pv 5) pa_nil))) pa_nil)))))
  (pss_one (ps_ret (pe_op op_cat (pv 2) (pe_f c_line_of hr pass0 (pa_cons (pe_lst (pa_cons (pe_f c_signs_of hr pass0 (pa_cons pe_str pa_nil)) pa_nil)) pa_nil))))))), ?_⟩
  refine ⟨_, rfl, len_cps cps_cast (by decide), fun H1 c1 s1 hc1 hc1' => ⟨_, rfl, _, rfl, dec_log hc, _, rfl, dec_size hc, fun H2 c2 s2 hc2 hc2' => ⟨small' (by show 2 ≤ 16000000; decide), fun p1 hp1 => ?_⟩⟩⟩
  rw [cps_cast] at hc1'
  rw [dec_str] at hc2'
  have s3 : Same H2 (upd H2 p1 (.lst [.ref c1, .ref c2])) := same_new hp1
  refine ⟨p1, _, rfl, ⟨[c1, c2], upd_same, .cons (s3 _ _ (s2 _ _ hc1')) (.cons (s3 _ _ hc2') .nil)⟩, castd_words hc, fun H3 o s4 ho ho3 => ?_⟩
  have t4 := (s1.trans s2).trans (s3.trans s4)
  have hoH : H o = none := ((s1.trans s2).trans s3).free ho
  have hL1 := two_len (castd_words hc)
  refine ⟨_, rfl, d, _, rfl, SqL.of (t4 _ _ hd), for_it walk_enum (fun i σ H' => ∃ (v3 v4 v5 : Option V), σ = [some (.int (c : Int)), some (.ref d), some (.ref o), v3, v4, v5] ∧ Same H H' ∧ H' o = some (.lst (VT (Vbktaa.line [word "cast", decimal c] ++ flatRows 0 (done.take i)))))
    ⟨none, none, none, rfl, t4, by rw [ho3, List.take_zero, flatRows, List.append_nil]⟩ (fun i σ H' _ ⟨_, _, _, _, s, _⟩ => SqL.of (s _ _ hd)) ?_ ?_⟩
  · rintro i x σ H5 H6 hi ⟨v3, v4, v5, rfl, s5, ho5⟩ ⟨q, x1, x2, rfl, hq, rfl, hx1, hx2⟩
    obtain ⟨a, ha, rfl⟩ := map_get hx2
    obtain ⟨r, hr', b, hDa, hDb⟩ := paired_get hD ha
    have ex1 := Option.some.inj hx1
    subst ex1
    have hir : i < done.length := (List.getElem?_eq_some_iff.mp hr').1
    obtain ⟨hl, h8⟩ := hall r (List.mem_of_getElem? hr')
    have eT : flatRows 0 (done.take (i + 1)) = flatRows 0 (done.take i) ++ flatLine (i + 1) r.2 := by
      rw [take_more hr', flatRows_snoc, List.length_take, Nat.min_eq_left (by omega), Nat.zero_add]
    have hfl := flatRows_len (done.take i) 0 (by rw [List.length_take]; omega) fun y hy => hall y (List.mem_of_mem_take hy)
    rw [List.length_take] at hfl
    have hll := flatLine_len (i := i + 1) (by omega) hl h8
    have s6 : Same H5 (upd H5 q (.tup [.int (i : Nat), .ref a])) := same_new hq
    refine ⟨q, _, rfl, SqT.of upd_same, rfl, _, _, rfl, _, _, rfl, a, _, rfl, SqT.of (s6 _ _ (s5 _ _ hDa)), rfl, _, _, rfl, _, _, rfl, rfl, rfl, ?_⟩
    have t6 := s5.trans s6
    refine ⟨_, rfl, .inl ⟨rfl, _, SqL.of (s6 _ _ ho5)⟩, _, rfl, _, _, rfl, rfl, _, rfl, i + 1, b, r.2, rfl, t6 _ _ hDb, by omega, hl, h8, fun H7 y s7 hy hy7 => ?_⟩
    refine ⟨o, y, _, _, rfl, rfl, s7 _ _ (s6 _ _ ho5), hy7, small' (by rw [VT_len, VT_len, List.length_append]; omega), ?_⟩
    refine ⟨_, _, _, rfl, same_put (t6.trans s7) hoH, ?_⟩
    rw [upd_same, eT, ← List.append_assoc, VT_app _ (flatLine (i + 1) r.2)]
  · rintro σ H5 ⟨v3, v4, v5, rfl, s5, ho5⟩
    rw [List.length_map, paired_len hD, take_all] at ho5
    have hfl := flatRows_len done 0 (by omega) hall
    refine ⟨_, rfl, _, rfl, len_cps cps_off (by decide), fun H6 c3 s6 hc3 hc3' => ⟨small' (by show 1 ≤ 16000000; decide), fun p2 hp2 => ?_⟩⟩
    rw [cps_off] at hc3'
    have s7 : Same H6 (upd H6 p2 (.lst [.ref c3])) := same_new hp2
    refine ⟨p2, _, rfl, ⟨[c3], upd_same, .cons (s7 _ _ hc3') .nil⟩, one_words (by decide), fun H8 y s8 hy hy8 => ?_⟩
    have t8 := (s6.trans s7).trans s8
    have hl5 := one_len (one_words (t := word "off") (by decide))
    refine ⟨o, y, _, _, rfl, rfl, t8 _ _ ho5, hy8, small' (by rw [VT_len, VT_len, List.length_append]; omega), fun z hz => ?_⟩
    refine kk _ z (same_put (s5.trans t8) ((s5.trans t8).free hz)) ((s5.trans t8).free hz) ?_
    rw [upd_same, ← VT_app]
    unfold flatT
    rw [List.append_assoc]
end
end Kn
namespace Kn
open PySem PySem.Spec PyProof.Rows L2
open Vbktaa (Form Size Item Items Part Parts Piece made NAMES)
/-- a work that is done with -/
structure WD (K : PySem.W.Frag) (H : Hp) (wk : Addr) (row : Int) (done : List (Nat × List Nat)) (ws : List Nat) : Prop where
  ex : ∃ (dx : Addr) (fs : List (Str × V)) (dn wd : Addr) (ds : List Addr), H wk = some (.ins (He.ga K "Work") dx fs) ∧ fs.lookup ("done" : Str) = some (.ref dn) ∧ fs.lookup ("widths" : Str) = some (.ref wd) ∧ fs.lookup ("row" : Str) = some (.int row) ∧
    H dn = some (.lst (ds.map V.ref)) ∧ Paired (DoneAt H) ds done ∧ H wd = some (.lst (VT ws))
theorem WD.mono {K : PySem.W.Frag} {H H' : Hp} {wk : Addr} {row : Int} {done : List (Nat × List Nat)} {ws : List Nat} (h : WD K H wk row done ws) (s : Same H H') : WD K H' wk row done ws := by
  obtain ⟨dx, fs, dn, wd, ds, h1, h2, h3, h4, h5, h6, h7⟩ := h.ex
  exact ⟨dx, fs, dn, wd, ds, s _ _ h1, h2, h3, h4, s _ _ h5, paired_mono (fun _ _ r => r.mono s) h6, s _ _ h7⟩
theorem WS.wd {K : PySem.W.Frag} {F0 F H : Hp} {wk : Addr} {v : List Int} {r : Vbktaa.Run} {row : Int} {done : List (Nat × List Nat)} {ws : List Nat} (h : WS K F0 F H wk v r row done ws) : WD K H wk row done ws := by
  obtain ⟨dx, sz, st, dn, wd, ds, h1, h2, h3, h4, h5, h6, h7, h8, h9, h10⟩ := h.ex
  exact ⟨dx, _, dn, wd, ds, h1, rfl, rfl, rfl, h5, paired_mono (fun _ _ r => r.mono h.s1) h7, h8⟩
/-- what was knit, few and of stitches -/
structure DoneG (done : List (Nat × List Nat)) (ws : List Nat) : Prop where
  few : done.length ≤ 1500
  tot : tot done ≤ 1500
  st : ∀ r ∈ done, ∀ s ∈ r.2, s < 8
  len : ws.length = done.length + 1
  cast : ∀ c, ws[0]? = some c → c ≤ 1500
def allS (done : List (Nat × List Nat)) : List Nat := done.flatMap fun r => r.2
theorem allS_len (done : List (Nat × List Nat)) : (allS done).length = tot done := by
  unfold allS tot
  rw [List.length_flatMap]
theorem tot_take (done : List (Nat × List Nat)) (i : Nat) : tot (done.take i) ≤ tot done := by
  have h : done.take i ++ done.drop i = done := List.take_append_drop i done
  have : tot done = tot (done.take i) + tot (done.drop i) := by
    conv => lhs; rw [← h]
    unfold tot
    rw [List.map_append, List.sum_append]
  omega
theorem tot_mem {done : List (Nat × List Nat)} {r : Nat × List Nat} (h : r ∈ done) : r.2.length ≤ tot done := by
  induction done with
  | nil => cases h
  | cons a l ih =>
    rw [tot_cons]
    rcases List.mem_cons.mp h with e | m
    · rw [e]; omega
    · have := ih m; omega
def rowToldI (done : List (Nat × List Nat)) (i : Int) : List Int := if 0 ≤ i ∧ i < (done.length : Int) then (match done[i.toNat]? with
  | some r => 0 :: ((r.1 : Int) :: r.2.map fun (n : Nat) => (n : Int))
  | none => []) else [-4]
def NewI (H : Hp) (xs : List Int) (Q : VK) : Prop := New H (xs.map V.int) Q
theorem ints_VT (l : List Nat) : (l.map fun (n : Nat) => (n : Int)).map V.int = VT l := by rw [List.map_map]; rfl
section
variable {P : Program} {w : World} {K : PySem.W.Frag} {mg : Str → Option Value} {base : Heap}
/-! ### all_stitches -/
def spAllS (K : PySem.W.Frag) : Sp := fun vs H Q _ => ∃ (wk : Addr) (row : Int) (done : List (Nat × List Nat)) (ws : List Nat), vs = [.ref wk] ∧ WD K H wk row done ws ∧ DoneG done ws ∧ New H (VT (allS done)) Q
theorem sc_all_stitches : FnScope ["work", "found", "number", "stitches"] ["work"] (defScope s_all_stitches) := ⟨rfl, rfl, rfl, by decide +kernel, rfl, by decide +kernel, by decide +kernel⟩
theorem ok_all_stitches (T : Txt K mg) (D : Def K mg "all_stitches" s_all_stitches) : Cal P w K mg base CX0 1 "all_stitches" ["work"] (spAllS K) := by
  have sc := sc_all_stitches
  refine Cal.mk' D sc (fun _ _ _ _ _ _ us hl => match us, hl with | [_], _ => rfl) (fun vs H Q E h => ?_) (fun f cdv A outer s H vs Q E hr h => ?_)
  · obtain ⟨_, _, _, _, rfl, _⟩ := h; rfl
  obtain ⟨wk, row, done, ws, rfl, hW, hG, kk⟩ := h
  refine ⟨_, PSs.nox (pss_cons (ps_set (i := 1) sc.nd rfl (Or.inl rfl) (pe_lst pa_nil))
  (pss_cons (ps_for PassesOwn.never rfl (pi_list (pe_fld (pv 0) rfl)) (pg_tup rfl (pgs_cons (pg_name (i := 2) sc.nd rfl (Or.inl rfl)) (pgs_cons (pg_name (i := 3) sc.nd rfl (Or.inl rfl)) pgs_nil))) (pss_one (ps_expr (pe_bm PySem.F.plainAttrs_list PySem.F.slot_list_extend PySem.F.type_list_extend mt_extend (pv 1) (pa_cons (pv 3) pa_nil)))))
  (pss_one (ps_ret (pv 1))))), ?_⟩
  obtain ⟨dx, fs, dn, wd, ds, h1, h2, h3, h4, h5, h6, h7⟩ := hW.ex
  refine ⟨small' (by decide), fun o ho => ?_⟩
  have s0 : Same H (upd H o (.lst [])) := same_new ho
  refine ⟨_, rfl, wk, _, dx, fs, _, rfl, s0 _ _ h1, T.cWork, T.nWork_done, h2, dn, rfl, ⟨_, SqL.of (s0 _ _ h5)⟩, for_it walk_list (fun i σ H' => ∃ (v2 v3 : Option V), σ = [some (.ref wk), some (.ref o), v2, v3] ∧ Same H H' ∧ H' o = some (.lst (VT (allS (done.take i)))))
    ⟨none, none, rfl, s0, upd_same⟩ (fun i σ H' _ ⟨_, _, _, s, _⟩ => SqL.of (s _ _ h5)) ?_ ?_⟩
  · rintro i x σ H1 H2 hi ⟨v2, v3, rfl, s1, ho1⟩ ⟨rfl, hx⟩
    obtain ⟨a, ha, rfl⟩ := map_get hx
    obtain ⟨r, hr', b, hDa, hDb⟩ := paired_get h6 ha
    refine ⟨a, _, rfl, SqT.of (s1 _ _ hDa), rfl, _, _, rfl, _, _, rfl, rfl, ?_⟩
    have e1 := allS_len (done.take i)
    have e2 := tot_take done i
    have e3 := tot_mem (List.mem_of_getElem? hr')
    have e4 := hG.tot
    refine ⟨_, rfl, .inl ⟨rfl, _, SqL.of ho1⟩, _, rfl, o, b, _, _, rfl, rfl, ho1, s1 _ _ hDb, small' (by rw [VT_len, VT_len]; omega), ?_⟩
    refine ⟨_, _, rfl, same_put s1 ho, ?_⟩
    rw [upd_same, take_more hr']
    unfold allS
    rw [flatMap_snoc, VT_app]
  · rintro σ H1 ⟨v2, v3, rfl, s1, ho1⟩
    rw [List.length_map, paired_len h6, take_all] at ho1
    exact ⟨_, rfl, kk _ o s1 ho ho1⟩
/-! ### row_told -/
def spRowTold (K : PySem.W.Frag) : Sp := fun vs H Q _ => ∃ (wk : Addr) (i row : Int) (done : List (Nat × List Nat)) (ws : List Nat), vs = [.ref wk, .int i] ∧ WD K H wk row done ws ∧ DoneG done ws ∧ NewI H (rowToldI done i) Q
theorem sc_row_told : FnScope ["work", "at", "number", "stitches"] ["work", "at"] (defScope s_row_told) := ⟨rfl, rfl, rfl, by decide +kernel, rfl, by decide +kernel, by decide +kernel⟩
theorem ok_row_told (T : Txt K mg) (D : Def K mg "row_told" s_row_told) : Cal P w K mg base CX0 1 "row_told" ["work", "at"] (spRowTold K) := by
  have sc := sc_row_told
  refine Cal.mk' D sc (fun _ _ _ _ _ _ us hl => match us, hl with | [_, _], _ => rfl) (fun vs H Q E h => ?_) (fun f cdv A outer s H vs Q E hr h => ?_)
  · obtain ⟨_, _, _, _, _, rfl, _⟩ := h; rfl
  obtain ⟨wk, i, row, done, ws, rfl, hW, hG, kk⟩ := h
  refine ⟨_, PSs.nox (pss_cons (ps_if (pt_not (pt_chain op_le op_lt pe_int (pv 1) (pe_callB call_len_seq (by rfl) T.f_len (by decide +kernel) (pa_cons (pe_fld (pv 0) rfl) pa_nil)))) (pss_one (ps_ret (pe_lst (pa_cons (pe_un un_neg pe_int) pa_nil)))) pss_nil)
  (pss_cons (ps_asg (pe_ix ix_list (pe_fld (pv 0) rfl) (pv 1) (fun _ _ => rfl)) (pg_tup rfl (pgs_cons (pg_name (i := 2) sc.nd rfl (Or.inl rfl)) (pgs_cons (pg_name (i := 3) sc.nd rfl (Or.inl rfl)) pgs_nil))))
  (pss_one (ps_ret (pe_op op_cat (pe_lst (pa_cons pe_int (pa_cons (pv 2) pa_nil))) (pv 3)))))), ?_⟩
  obtain ⟨dx, fs, dn, wd, ds, h1, h2, h3, h4, h5, h6, h7⟩ := hW.ex
  have hlen := paired_len h6
  have bad : ¬ (0 ≤ i ∧ i < (done.length : Int)) → ∀ (p : Addr), H p = none → Q (.ref p) (upd H p (.lst [.int (-4)])) := fun c p hp => by
    unfold rowToldI at kk
    rw [if_neg c] at kk
    exact kk _ p (same_new hp) hp upd_same
  refine ⟨_, rfl, _, _, rfl, rfl, _, rfl, ?_⟩
  by_cases c1 : 0 ≤ i
  · refine if_true_of (decide_eq_true c1) ?_
    refine ⟨_, rfl, wk, _, dx, fs, _, rfl, h1, T.cWork, T.nWork_done, h2, dn, _, rfl, .inl (SqL.of h5), ?_⟩
    refine ⟨_, _, rfl, rfl, _, rfl, ?_⟩
    have el : (ds.map V.ref).length = done.length := by rw [List.length_map, hlen]
    rw [el]
    by_cases c2 : i < (done.length : Int)
    · refine if_false_of (by rw [decide_eq_true c2]; rfl) ?_
      obtain ⟨j, rfl⟩ : ∃ j : Nat, i = (j : Int) := ⟨i.toNat, by omega⟩
      have hj : j < done.length := by omega
      have hjd : j < ds.length := by omega
      obtain ⟨r, hr', b, hDa, hDb⟩ := paired_get h6 (List.getElem?_eq_getElem hjd)
      have e3 := tot_mem (List.mem_of_getElem? hr')
      have e4 := hG.tot
      unfold rowToldI at kk
      rw [if_pos ⟨c1, c2⟩, Int.toNat_natCast, hr'] at kk
      refine ⟨_, rfl, wk, _, dx, fs, _, rfl, h1, T.cWork, T.nWork_done, h2, _, rfl, dn, _, _, _, rfl, rfl, SqL.of h5, atI_nat (j := j) (show (ds.map V.ref)[j]? = some (.ref ds[j]) by rw [List.getElem?_map, List.getElem?_eq_getElem hjd]; rfl), ?_⟩
      refine ⟨ds[j], _, rfl, SqT.of hDa, rfl, _, _, rfl, _, _, rfl, rfl, ?_⟩
      refine ⟨_, rfl, small' (by show 2 ≤ 16000000; decide), fun p hp => ⟨_, rfl, p, b, _, _, rfl, rfl, upd_same, put_at hp hDb, small' (by rw [VT_len]; show 2 + _ ≤ _; omega), fun q hq => ?_⟩⟩
      have s1 : Same H (upd H p (.lst [.int 0, .int (r.1 : Int)])) := same_new hp
      refine kk _ q (same_put s1 (s1.free hq)) (s1.free hq) ?_
      rw [upd_same]
      dsimp only
      rw [List.map_cons, List.map_cons, ints_VT]; rfl
    · exact if_true_of (by rw [decide_eq_false c2]; rfl) ⟨_, rfl, small' (by show 1 ≤ 16000000; decide), fun p hp => bad (fun e => c2 e.2) p hp⟩
  · exact if_false_of (decide_eq_false c1) ⟨_, rfl, if_true_of rfl ⟨_, rfl, small' (by show 1 ≤ 16000000; decide), fun p hp => bad (fun e => c1 e.1) p hp⟩⟩
end
end Kn
namespace Kn
open PySem PySem.Spec PyProof.Rows L2
open Vbktaa (Form Size Item Items Part Parts Piece made NAMES)
def intsN (l : List Nat) : List Int := l.map fun (n : Nat) => (n : Int)
theorem intsN_V (l : List Nat) : (intsN l).map V.int = VT l := ints_VT l
def toldI (n : Nat) (i : Int) (done : List (Nat × List Nat)) (ws : List Nat) : List Int :=
  if n = 2 then [0, (done.length : Int), ((ws.getLastD 0 : Nat) : Int), ((allS done).length : Int)] else if n = 3 then rowToldI done i else if n = 4 then 0 :: intsN ws else
  if n = 5 then 0 :: (List.range 8).map (fun (k : Nat) => (((intsN (allS done)).count (k : Int) : Nat) : Int)) else if n = 6 then 0 :: intsN (done.map fun r => r.1) else
  if 20 < done.length then [-5] else 0 :: intsN (flatT (ws.headD 0) done)
section
variable {P : Program} {w : World} {K : PySem.W.Frag} {mg : Str → Option Value} {base : Heap}
/-! ### told_of -/
def spToldOf (K : PySem.W.Frag) : Sp := fun vs H Q _ => ∃ (wk nb : Addr) (n : Nat) (i row : Int) (us : List V) (done : List (Nat × List Nat)) (ws : List Nat), vs = [.ref wk, .int (n : Int), .ref nb] ∧ WD K H wk row done ws ∧ DoneG done ws ∧ SqL K H nb us ∧ (n = 3 → us[0]? = some (.int i)) ∧ NewI H (toldI n i done ws) Q
theorem sc_told_of : FnScope ["work", "number", "numbers", "stitches", "stitch", "row"] ["work", "number", "numbers"] (defScope s_told_of) := ⟨rfl, rfl, rfl, by decide +kernel, rfl, by decide +kernel, by decide +kernel⟩
theorem ok_told_of (T : Txt K mg) (D : Def K mg "told_of" s_told_of) (c_all_stitches : Cal P w K mg base CX0 1 "all_stitches" ["work"] (spAllS K)) (c_row_told : Cal P w K mg base CX0 1 "row_told" ["work", "at"] (spRowTold K)) (c_flat : Cal P w K mg base CX0 4 "flat" ["cast", "done"] spFlat) :
    Cal P w K mg base CX0 5 "told_of" ["work", "number", "numbers"] (spToldOf K) := by
  have sc := sc_told_of
  refine Cal.mk' D sc (fun _ _ _ _ _ _ us hl => match us, hl with | [_, _, _], _ => rfl) (fun vs H Q E h => ?_) (fun f cdv A outer s H vs Q E hr h => ?_)
  · obtain ⟨_, _, _, _, _, _, _, _, rfl, _⟩ := h; rfl
  obtain ⟨wk, nb, n, i, row, us, done, ws, rfl, hW, hG, hnb, hi3, kk⟩ := h
  refine ⟨_, PSs.nox (pss_cons (ps_if (pt_cmpR op_eq (pv 1) pe_int (nomark _)) (pss_one (ps_ret (pe_lst (pa_cons pe_int (pa_cons (pe_callB call_len_seq (by rfl) T.f_len (by decide +kernel) (pa_cons (pe_fld (pv 0) rfl) pa_nil)) (pa_cons (pe_ix ix_list (pe_fld (pv 0) rfl) (pe_un un_neg pe_int) (fun _ _ => rfl)) (pa_cons (pe_callB call_len_seq (by rfl) T.f_len (by decide +kernel) (pa_cons (pe_f c_all_stitches hr pass0 (pa_cons (pv 0) pa_nil)) pa_nil)) pa_nil))))))) pss_nil)
  (pss_cons (ps_if (pt_cmpR op_eq (pv 1) pe_int (nomark _)) (pss_one (ps_ret (pe_f c_row_told hr pass0 (pa_cons (pv 0) (pa_cons (pe_ix ix_list (pv 2) pe_int (fun _ _ => rfl)) pa_nil))))) pss_nil)
  (pss_cons (ps_if (pt_cmpR op_eq (pv 1) pe_int (nomark _)) (pss_one (ps_ret (pe_op op_cat (pe_lst (pa_cons pe_int pa_nil)) (pe_fld (pv 0) rfl)))) pss_nil)
  (pss_cons (ps_if (pt_cmpR op_eq (pv 1) pe_int (nomark _)) (pss_cons (ps_set (i := 3) sc.nd rfl (Or.inr rfl) (pe_f c_all_stitches hr pass0 (pa_cons (pv 0) pa_nil)))
    (pss_one (ps_ret (pe_op op_cat (pe_lst (pa_cons pe_int pa_nil)) (pe_lc (own := [("stitch", 4)]) (g := gName 4) rfl sc.nd (pi_range1 rfl T.f_range (pa_cons (pe_callB call_len_seq (by rfl) T.f_len (by decide +kernel) (pa_cons (pe_gr T.g_STITCHES) pa_nil)) pa_nil)) (blkOk_by (N := ["work", "number", "numbers", "stitches", "stitch", "row"]) (sc := defScope s_told_of) (by decide +kernel)) (fun _ _ _ _ _ => (pg_name (i := 4) sc.nd rfl (Or.inl rfl))) (fun _ _ _ _ _ => pts_nil) (fun _ _ _ _ _ => (show PE _ _ (tBM K "list" (rCntI K) (tVar 3) (tCons (tVar 4) tNil)) from pe_bm PySem.F.plainAttrs_list PySem.F.slot_list_count PySem.F.type_list_count mt_lcount (pv 3) (pa_cons (pv 4) pa_nil)))))))) pss_nil)
  (pss_cons (ps_if (pt_cmpR op_eq (pv 1) pe_int (nomark _)) (pss_one (ps_ret (pe_op op_cat (pe_lst (pa_cons pe_int pa_nil)) (pe_lc (own := [("row", 5), ("stitches", 3)]) (g := gTup _ 2 (gCons (gName 5) (gCons (gName 3) gNil))) rfl sc.nd (pi_list (pe_fld (pv 0) rfl)) (blkOk_by (N := ["work", "number", "numbers", "stitches", "stitch", "row"]) (sc := defScope s_told_of) (by decide +kernel)) (fun _ _ _ _ _ => (pg_tup rfl (pgs_cons (pg_name (i := 5) sc.nd rfl (Or.inl rfl)) (pgs_cons (pg_name (i := 3) sc.nd rfl (Or.inl rfl)) pgs_nil)))) (fun _ _ _ _ _ => pts_nil) (fun _ _ _ _ _ => (pv 5)))))) pss_nil)
  (pss_cons (ps_if (pt_cmpR op_gt (pe_callB call_len_seq (by rfl) T.f_len (by decide +kernel) (pa_cons (pe_fld (pv 0) rfl) pa_nil)) (pe_gi T.i_MOST_FLAT) (nomark _)) (pss_one (ps_ret (pe_lst (pa_cons (pe_un un_neg pe_int) pa_nil)))) pss_nil)
  (pss_one (ps_ret (pe_op op_cat (pe_lst (pa_cons pe_int pa_nil)) (pe_f c_flat hr pass0 (pa_cons (pe_ix ix_list (pe_fld (pv 0) rfl) pe_int (fun _ _ => rfl)) (pa_cons (pe_fld (pv 0) rfl) pa_nil)))))))))))), ?_⟩
  obtain ⟨dx, fs, dn, wd, ds, h1, h2, h3, h4, h5, h6, h7⟩ := hW.ex
  have hlen := paired_len h6
  have hwl : ws ≠ [] := fun e => by have := hG.len; rw [e] at this; simp at this
  obtain ⟨w0, wr, ew⟩ := List.exists_cons_of_ne_nil hwl
  have ne : ∀ k : Nat, n ≠ k → decide (V.int (n : Int) = V.int (k : Int)) = false := fun k c => decide_eq_false (fun e => c (by have := V.int.inj e; omega))
  have few := hG.few
  unfold toldI at kk
  refine ⟨_, rfl, rfl, _, rfl, ?_⟩
  by_cases c2 : n = 2
  · refine if_true_of (decide_eq_true (by rw [c2]; rfl)) ?_
    rw [if_pos c2] at kk
    have hat : atI (VT ws) (-1) = some (.int ((ws.getLastD 0 : Nat) : Int)) := by
      rcases List.eq_nil_or_concat ws with e | ⟨l, x, e⟩
      · exact absurd e hwl
      · rw [List.concat_eq_append] at e
        have e2 : ws.getLastD 0 = x := by rw [e]; simp
        rw [e2, e, VT_app]
        exact atI_last _ _
    refine ⟨_, rfl, wk, _, dx, fs, _, rfl, h1, T.cWork, T.nWork_done, h2, dn, _, rfl, .inl (SqL.of h5), ?_⟩
    refine ⟨_, rfl, wk, _, dx, fs, _, rfl, h1, T.cWork, T.nWork_widths, h3, _, rfl, wd, _, _, _, rfl, rfl, SqL.of h7, hat, ?_⟩
    refine ⟨_, rfl, wk, row, done, ws, rfl, hW, hG, fun H1 p s1 hp hp1 => ⟨p, _, rfl, .inl (SqL.of hp1), small' (by show 4 ≤ 16000000; decide), fun q hq => ?_⟩⟩
    refine kk _ q (same_put s1 (s1.free hq)) (s1.free hq) ?_
    rw [upd_same, VT_len, List.length_map, hlen]; rfl
  refine if_false_of (ne 2 c2) ⟨_, rfl, rfl, _, rfl, ?_⟩
  rw [if_neg c2] at kk
  by_cases c3 : n = 3
  · refine if_true_of (decide_eq_true (by rw [c3]; rfl)) ?_
    rw [if_pos c3] at kk
    refine ⟨_, rfl, _, rfl, nb, _, _, _, rfl, rfl, hnb, atI_nat (j := 0) (hi3 c3), wk, i, row, done, ws, rfl, hW, hG, kk⟩
  refine if_false_of (ne 3 c3) ⟨_, rfl, rfl, _, rfl, ?_⟩
  rw [if_neg c3] at kk
  by_cases c4 : n = 4
  · refine if_true_of (decide_eq_true (by rw [c4]; rfl)) ?_
    rw [if_pos c4] at kk
    refine ⟨small' (by show 1 ≤ 16000000; decide), fun p hp => ?_⟩
    have s1 : Same H (upd H p (.lst [.int 0])) := same_new hp
    have hl := hG.len
    refine ⟨_, rfl, wk, _, dx, fs, _, rfl, s1 _ _ h1, T.cWork, T.nWork_widths, h3, p, wd, _, _, rfl, rfl, upd_same, s1 _ _ h7, small' (by rw [VT_len]; show 1 + _ ≤ _; omega), fun q hq => ?_⟩
    refine kk _ q (same_put s1 (s1.free hq)) (s1.free hq) ?_
    rw [upd_same, List.map_cons, intsN_V]; rfl
  refine if_false_of (ne 4 c4) ⟨_, rfl, rfl, _, rfl, ?_⟩
  rw [if_neg c4] at kk
  by_cases c5 : n = 5
  · refine if_true_of (decide_eq_true (by rw [c5]; rfl)) ?_
    rw [if_pos c5] at kk
    refine ⟨_, rfl, wk, row, done, ws, rfl, hW, hG, fun H1 p s1 hp hp1 => ?_⟩
    rw [← intsN_V] at hp1
    refine ⟨small' (by show 1 ≤ 16000000; decide), fun p2 hp2 => ?_⟩
    have s2 : Same H1 (upd H1 p2 (.lst [.int 0])) := same_new hp2
    have hp3 := s2 _ _ hp1
    have hp22 : upd H1 p2 (.lst [.int 0]) p2 = some (.lst [.int 0]) := upd_same
    have t2 := s1.trans s2
    generalize upd H1 p2 (.lst [.int 0]) = H2 at s2 hp3 hp22 t2 ⊢
    refine ⟨_, _, rfl, .inr (T.t_STITCHES _), _, rfl, by decide, by decide, fun D hD => ?_⟩
    refine lc_it walk_range (fun i H' => Same H2 H' ∧ H' D = some (.lst (((List.range i).map (fun (k : Nat) => (((intsN (allS done)).count (k : Int) : Nat) : Int))).map V.int))) ⟨same_new hD, upd_same⟩ (fun _ _ _ _ => trivial) ?_ ?_
    · rintro i x H3 H4 hi ⟨s3, hd⟩ ⟨rfl, rfl⟩
      have hi' : i < 8 := hi
      refine ⟨rfl, _, rfl, .inl ⟨rfl, _, SqL.of (s3 _ _ hp3)⟩, _, rfl, p, _, _, rfl, rfl, SqL.of (s3 _ _ hp3), _, hd, small (by rw [List.length_map, List.length_map, List.length_range]; omega), same_put s3 hD, ?_⟩
      rw [upd_same, List.range_succ, List.map_append, List.map_append]
      simp
    · rintro H3 ⟨s3, hd⟩
      refine ⟨p2, D, _, _, rfl, rfl, s3 _ _ hp22, hd, small' (by show 1 + 8 ≤ 16000000; decide), fun q hq => ?_⟩
      have t3 := t2.trans s3
      refine kk _ q (same_put t3 (t3.free hq)) (t3.free hq) ?_
      rw [upd_same]; rfl
  refine if_false_of (ne 5 c5) ⟨_, rfl, rfl, _, rfl, ?_⟩
  rw [if_neg c5] at kk
  by_cases c6 : n = 6
  · refine if_true_of (decide_eq_true (by rw [c6]; rfl)) ?_
    rw [if_pos c6] at kk
    refine ⟨small' (by show 1 ≤ 16000000; decide), fun p2 hp2 => ?_⟩
    have s2 : Same H (upd H p2 (.lst [.int 0])) := same_new hp2
    have hp22 : upd H p2 (.lst [.int 0]) p2 = some (.lst [.int 0]) := upd_same
    generalize upd H p2 (.lst [.int 0]) = H2 at s2 hp22 ⊢
    refine ⟨_, rfl, wk, _, dx, fs, _, rfl, s2 _ _ h1, T.cWork, T.nWork_done, h2, dn, rfl, ⟨_, SqL.of (s2 _ _ h5)⟩, fun D hD => ?_⟩
    refine lc_it walk_list (fun i H' => Same H2 H' ∧ H' D = some (.lst ((intsN ((done.take i).map fun r => r.1)).map V.int))) ⟨same_new hD, upd_same⟩ (fun i H' _ q => SqL.of (q.1 _ _ (s2 _ _ h5))) ?_ ?_
    · rintro i x H3 H4 hi ⟨s3, hd⟩ ⟨rfl, hx⟩
      obtain ⟨a, ha, rfl⟩ := map_get hx
      obtain ⟨r, hr', b, hDa, hDb⟩ := paired_get h6 ha
      refine ⟨a, _, rfl, SqT.of (s3 _ _ (s2 _ _ hDa)), rfl, _, _, rfl, _, _, rfl, rfl, ?_⟩
      refine ⟨rfl, _, rfl, _, hd, small ?_, same_put s3 hD, ?_⟩
      · rw [List.length_map]
        unfold intsN
        rw [List.length_map, List.length_map, List.length_take]; omega
      · rw [upd_same, take_more hr', List.map_append]
        unfold intsN
        rw [List.map_append, List.map_append]; rfl
    · rintro H3 ⟨s3, hd⟩
      rw [List.length_map, hlen, take_all] at hd
      refine ⟨p2, D, _, _, rfl, rfl, s3 _ _ hp22, hd, small' ?_, fun q hq => ?_⟩
      · rw [List.length_map]
        unfold intsN
        rw [List.length_map, List.length_map]
        show 1 + _ ≤ _
        omega
      have t3 := s2.trans s3
      refine kk _ q (same_put t3 (t3.free hq)) (t3.free hq) ?_
      rw [upd_same]; rfl
  refine if_false_of (ne 6 c6) ?_
  rw [if_neg c6] at kk
  refine ⟨_, rfl, wk, _, dx, fs, _, rfl, h1, T.cWork, T.nWork_done, h2, dn, _, rfl, .inl (SqL.of h5), ?_⟩
  rw [List.length_map, hlen]
  refine ⟨_, _, rfl, rfl, _, rfl, ?_⟩
  by_cases c7 : 20 < done.length
  · refine if_true_of (decide_eq_true (by omega)) ?_
    rw [if_pos c7] at kk
    exact ⟨_, rfl, small' (by show 1 ≤ 16000000; decide), fun p hp => kk _ p (same_new hp) hp upd_same⟩
  · refine if_false_of (decide_eq_false (by omega)) ?_
    rw [if_neg c7] at kk
    refine ⟨small' (by show 1 ≤ 16000000; decide), fun p2 hp2 => ?_⟩
    have s2 : Same H (upd H p2 (.lst [.int 0])) := same_new hp2
    have hp22 : upd H p2 (.lst [.int 0]) p2 = some (.lst [.int 0]) := upd_same
    generalize upd H p2 (.lst [.int 0]) = H2 at s2 hp22 ⊢
    have e0 : ws.headD 0 = w0 := by rw [ew]; rfl
    rw [e0] at kk
    have hw0 := hG.cast w0 (by rw [ew]; rfl)
    have hall : ∀ r ∈ done, r.2.length ≤ 1500 ∧ ∀ s ∈ r.2, s < 8 := fun r hr => ⟨Nat.le_trans (tot_mem hr) hG.tot, hG.st r hr⟩
    have hfl := flatRows_len done 0 (by omega) hall
    have hc1 := two_len (castd_words (c := w0) (by omega))
    have hc2 := one_len (one_words (t := Vbktaa.word "off") (by decide))
    refine ⟨_, rfl, wk, _, dx, fs, _, rfl, s2 _ _ h1, T.cWork, T.nWork_widths, h3, wd, _, _, _, rfl, rfl, SqL.of (s2 _ _ h7), atI_nat (j := 0) (show (VT ws)[0]? = some (.int (w0 : Int)) by rw [ew]; rfl), _, rfl, wk, _, dx, fs, _, rfl, s2 _ _ h1, T.cWork, T.nWork_done, h2, w0, dn, ds, done, rfl, s2 _ _ h5, paired_mono (fun _ _ r => r.mono s2) h6, by omega, by omega, hall, fun H3 p s3 hp hp3 => ?_⟩
    refine ⟨p2, p, _, _, rfl, rfl, s3 _ _ hp22, hp3, small' ?_, fun q hq => ?_⟩
    · rw [VT_len]
      unfold flatT
      rw [List.length_append, List.length_append]
      show 1 + _ ≤ _
      omega
    have t3 := s2.trans s3
    refine kk _ q (same_put t3 (t3.free hq)) (t3.free hq) ?_
    rw [upd_same, List.map_cons, intsN_V]; rfl
end
end Kn
namespace Kn
open PySem PySem.Spec PyProof.Rows L2
open Vbktaa (Form Size Item Items Part Parts Piece State allRows)
/-- a pattern that was read, as it stands on the heap -/
def PatW (K : PySem.W.Frag) (H : Hp) (p : Addr) (q : Vbktaa.Pattern) : Prop := ∃ rows, PatF K H p q rows ∧ allRows q.parts = rows ∧ rows.length ≤ 20
theorem PatW.mono {K : PySem.W.Frag} {H H' : Hp} {p : Addr} {q : Vbktaa.Pattern} (h : PatW K H p q) (s : Same H H') : PatW K H' p q := by
  obtain ⟨rows, h1, h2, h3⟩ := h
  exact ⟨rows, h1.mono s, h2, h3⟩
theorem PatW.lets {K : PySem.W.Frag} {H : Hp} {p : Addr} {q : Vbktaa.Pattern} (h : PatW K H p q) : PatL K H p q.sizes := by
  obtain ⟨rows, h1, _⟩ := h
  exact h1.letters
/-- the pattern that is held, or none -/
def Held (K : PySem.W.Frag) (H : Hp) (v : V) (s : State) : Prop := (v = .non ∧ s.there = false ∧ s.pattern.sizes = [] ∧ allRows s.pattern.parts = []) ∨ ∃ p, v = .ref p ∧ s.there = true ∧ PatW K H p s.pattern
theorem Held.mono {K : PySem.W.Frag} {H H' : Hp} {v : V} {s : State} (h : Held K H v s) (e : Same H H') : Held K H' v s := by
  rcases h with h | ⟨p, h1, h2, h3⟩
  · exact .inl h
  · exact .inr ⟨p, h1, h2, h3.mono e⟩
theorem Held.letters {K : PySem.W.Frag} {H : Hp} {v : V} {s : State} (h : Held K H v s) : Letters (s.pattern.sizes.map sgn) ∧ s.pattern.sizes.length ≤ 2 := by
  rcases h with ⟨_, _, h, _⟩ | ⟨p, _, _, rows, h3, _⟩
  · rw [h]; exact ⟨fun c hc => absurd hc (List.not_mem_nil), Nat.zero_le _⟩
  · exact ⟨h3.letters.named.letters, h3.two⟩
theorem ReadG.patW {K : PySem.W.Frag} {H : Hp} {p : Addr} {q : Vbktaa.Pattern} {rows : List (List Nat × Items)} (g : ReadG 3000 q rows) (h20 : rows.length ≤ 20) (h2 : q.sizes.length ≤ 2) (h : PatAt K H p q rows) : PatW K H p q :=
  ⟨rows, ⟨⟨h, g.sizes, h2, g.rowg⟩, g.parts, g.few, g.cast⟩, g.all, h20⟩
section
variable {P : Program} {w : World} {K : PySem.W.Frag} {mg : Str → Option Value} {base : Heap}
/-! ### letters_in -/
def spLettersIn (K : PySem.W.Frag) : Sp := fun vs H Q _ => ∃ (v : V) (s : State), vs = [v] ∧ Held K H v s ∧ New H (VT (s.pattern.sizes.map sgn)) Q
theorem sc_letters_in : FnScope ["pattern"] ["pattern"] (defScope s_letters_in) := ⟨rfl, rfl, rfl, by decide +kernel, rfl, by decide +kernel, by decide +kernel⟩
theorem ok_letters_in (T : Txt K mg) (D : Def K mg "letters_in" s_letters_in) (m_signs : CalM P w K mg base CX0 1 (He.ma K (He.ga K "Pattern") "signs") ["self"] (spPSigns K)) : Cal P w K mg base CX0 2 "letters_in" ["pattern"] (spLettersIn K) := by
  have sc := sc_letters_in
  refine Cal.mk' D sc (fun _ _ _ _ _ _ us hl => match us, hl with | [_], _ => rfl) (fun vs H Q E h => ?_) (fun f cdv A outer s H vs Q E hr h => ?_)
  · obtain ⟨_, _, rfl, _⟩ := h; rfl
  obtain ⟨v, st, rfl, hH, kk⟩ := h
  refine ⟨_, PSs.nox (pss_cons (ps_if (pt_cmpR op_isN (pv 0) pe_non (nomark _)) (pss_one (ps_ret (pe_lst pa_nil))) pss_nil)
  (pss_one (ps_ret (pe_m0 (pv 0) T.cPattern T.mt_signs m_signs hr pass0)))), ?_⟩
  refine ⟨_, rfl, rfl, _, rfl, ?_⟩
  rcases hH with ⟨rfl, _, h, _⟩ | ⟨p, rfl, _, hP⟩
  · rw [h] at kk
    exact if_true_of rfl ⟨small' (by decide), fun p hp => kk _ p (same_new hp) hp upd_same⟩
  · refine if_false_of rfl ?_
    have hL := hP.lets
    obtain ⟨dx, fs, la, as, h1, h2, h3, h4, h5⟩ := hL.ex
    exact ⟨_, rfl, p, dx, _, rfl, h1, h3, p, _, rfl, hL, kk⟩
/-! ### is_own_size -/
def spIsOwn (K : PySem.W.Frag) : Sp := fun vs H Q _ => ∃ (v : V) (b : Addr) (s : State) (l : List Int), vs = [v, .ref b] ∧ Held K H v s ∧ SqL K H b (l.map V.int) ∧ ∀ H', Same H H' → Q (.bl (sizeOk s.pattern.sizes l)) H'
theorem sc_is_own_size : FnScope ["pattern", "size"] ["pattern", "size"] (defScope s_is_own_size) := ⟨rfl, rfl, rfl, by decide +kernel, rfl, by decide +kernel, by decide +kernel⟩
theorem ok_is_own_size (T : Txt K mg) (D : Def K mg "is_own_size" s_is_own_size) (c_is_size : Cal P w K mg base CX0 1 "is_size" ["pattern", "size"] (spIsSize K)) : Cal P w K mg base CX0 2 "is_own_size" ["pattern", "size"] (spIsOwn K) := by
  have sc := sc_is_own_size
  refine Cal.mk' D sc (fun _ _ _ _ _ _ us hl => match us, hl with | [_, _], _ => rfl) (fun vs H Q E h => ?_) (fun f cdv A outer s H vs Q E hr h => ?_)
  · obtain ⟨_, _, _, _, rfl, _⟩ := h; rfl
  obtain ⟨v, b, st, l, rfl, hH, hb, kk⟩ := h
  refine ⟨_, PSs.nox (pss_cons (ps_if (pt_cmpR op_isN (pv 0) pe_non (nomark _)) (pss_one (ps_ret (pe_cmpR (op_eqNil (Nat.lt_of_le_of_lt (Nat.le_add_right _ 64) hr.units)) (pv 1) (pe_lst pa_nil) (nomark _)))) pss_nil)
  (pss_one (ps_ret (pe_f c_is_size hr pass0 (pa_cons (pv 0) (pa_cons (pv 1) pa_nil)))))), ?_⟩
  refine ⟨_, rfl, rfl, _, rfl, ?_⟩
  rcases hH with ⟨rfl, _, h, _⟩ | ⟨p, rfl, _, hP⟩
  · refine if_true_of rfl ⟨_, rfl, small' (by decide), fun q hq => ⟨b, q, _, rfl, rfl, (same_new hq).seq hb, SqL.of upd_same, ?_⟩⟩
    have := kk _ (same_new (o := .lst []) hq)
    rw [h] at this
    have e : (l.map V.int).isEmpty = sizeOk [] l := by cases l <;> rfl
    rw [e]; exact this
  · refine if_false_of rfl ?_
    obtain ⟨rows, hF, _⟩ := hP
    exact ⟨_, rfl, _, rfl, p, b, _, l, rfl, hF.letters, fun z hz => (hF.sizes z hz).step.1, hb, kk⟩
/-! ### put -/
def putI (s : State) (t : List Nat) : State × List Int := match Vbktaa.readText t with
  | .inl x => (s, [1, (x.1 : Int), (x.2 : Int)])
  | .inr q => ({ pattern := q, there := true }, [0, (q.sizes.length : Int), ((allRows q.parts).length : Int)])
def spPut (K : PySem.W.Frag) : Sp := fun vs H Q _ => ∃ (v : V) (a : Addr) (s : State) (t : List Nat), vs = [v, .ref a] ∧ Held K H v s ∧ SqL K H a (VT t) ∧ t.length ≤ 2400 ∧
  ∀ (H' : Hp) (tp lp : Addr) (v' : V), Same H H' → H lp = none → H' tp = some (.tup [v', .ref lp]) → H' lp = some (.lst ((putI s t).2.map V.int)) → Held K H' v' (putI s t).1 → Q (.ref tp) H'
theorem sc_put : FnScope ["pattern", "text", "later", "fault"] ["pattern", "text"] (defScope s_put) := ⟨rfl, rfl, rfl, by decide +kernel, rfl, by decide +kernel, by decide +kernel⟩
theorem ok_put (T : Txt K mg) (D : Def K mg "put" s_put) (c_read_pattern : Cal P w K mg base (L2.CX P w) 20 "read_pattern" ["text"] (spReadP K)) : Cal P w K mg base (L2.CX P w) 21 "put" ["pattern", "text"] (spPut K) := by
  have sc := sc_put
  refine Cal.mk' D sc (fun _ _ _ _ _ _ us hl => match us, hl with | [_, _], _ => rfl) (fun vs H Q E h => ?_) (fun f cdv A outer s H vs Q E hr h => ?_)
  · obtain ⟨_, _, _, _, rfl, _⟩ := h; rfl
  obtain ⟨v, a, st, t, rfl, hH, hS, hl, kk⟩ := h
  refine ⟨_, (pss_cons (ps_try_as (i := 3) rfl rfl sc.nd rfl rfl ⟨rfl, by decide, Or.inl T.gWrong⟩ takes0 (fun W pn xe tk _ => (pss_one (ps_set (i := 2) sc.nd rfl (Or.inl rfl) (pe_fS c_read_pattern hr (fun σ => passAt tk σ) (by exact (pa_cons (pv 1) pa_nil)))))) (fun a oe cls d pn hz hf => (pss_one (ps_ret (pe_tup (pa_cons (pv 0) (pa_cons (pe_lst (pa_cons pe_int (pa_cons (pe_xf T.xfWrong T.nWrong_line hz hf (pv 3)) (pa_cons (pe_xf T.xfWrong T.nWrong_why hz hf (pv 3)) pa_nil)))) pa_nil)))))))
  (pss_one (ps_ret (pe_tup (pa_cons (pv 2) (pa_cons (pe_lst (pa_cons pe_int (pa_cons (pe_callB call_len_seq (by rfl) T.f_len (by decide +kernel) (pa_cons (pe_fld (pv 2) rfl) pa_nil)) (pa_cons (pe_callB call_len_seq (by rfl) T.f_len (by decide +kernel) (pa_cons (pe_fld (pv 2) rfl) pa_nil)) pa_nil)))) pa_nil)))))), ?_⟩
  unfold putI at kk
  refine ⟨_, rfl, a, t, rfl, hS, hl, fun e he => ?_, fun q hq rows hG h20 H1 p s1 hp hPA => ?_⟩
  · rw [he] at kk
    intro d H1 s1 hx
    refine ⟨true, T.eWrong, fun _ x hx0 => ?_, fun z => absurd z (by decide)⟩
    refine ⟨_, rfl, _, rfl, rfl, rfl, d, _, _, rfl, hx, rfl, _, rfl, rfl, rfl, d, _, _, rfl, hx, rfl, small' (by show 3 ≤ 16000000; decide), fun lp hlp => ?_⟩
    have s2 : Same H1 (upd H1 lp (.lst [.int 1, .int (e.1 : Int), .int (e.2 : Int)])) := same_new hlp
    have hl2 : upd H1 lp (.lst [.int 1, .int (e.1 : Int), .int (e.2 : Int)]) lp = some (.lst [.int 1, .int (e.1 : Int), .int (e.2 : Int)]) := upd_same
    refine ⟨small' (by show 2 ≤ 16000000; decide), fun tp htp => ?_⟩
    have s3 := same_put (o := .tup [v, .ref lp]) s2 (s2.free htp)
    exact kk _ tp lp v (s1.trans s3) (s1.free hlp) upd_same (put_at htp hl2) (hH.mono (s1.trans s3))
  · rw [hq] at kk
    have hW : PatW K H1 p q := hG.patW h20 (text_two hq) hPA
    obtain ⟨dx, la, ca, ra, pa, las, rs, pus, h1, h3, h4, h5, h6, h7, h8, h9⟩ := hPA.ex
    refine ⟨_, rfl, _, rfl, p, _, dx, _, _, rfl, h1, T.cPattern, T.nPattern_letters, rfl, la, _, rfl, .inl (SqL.of h3), _, rfl, p, _, dx, _, _, rfl, h1, T.cPattern, T.nPattern_rows, rfl, ra, _, rfl, .inl (SqL.of h6), small' (by show 3 ≤ 16000000; decide), fun lp hlp => ?_⟩
    have s2 : Same H1 (upd H1 lp (.lst [.int 0, .int ((las.map V.ref).length : Int), .int ((rs.map V.ref).length : Int)])) := same_new hlp
    have hl2 : upd H1 lp (.lst [.int 0, .int ((las.map V.ref).length : Int), .int ((rs.map V.ref).length : Int)]) lp = some (.lst [.int 0, .int ((las.map V.ref).length : Int), .int ((rs.map V.ref).length : Int)]) := upd_same
    refine ⟨small' (by show 2 ≤ 16000000; decide), fun tp htp => ?_⟩
    have s3 := same_put (o := .tup [.ref p, .ref lp]) s2 (s2.free htp)
    refine kk _ tp lp (.ref p) (s1.trans s3) (s1.free hlp) upd_same ?_ (.inr ⟨p, rfl, rfl, hW.mono s3⟩)
    rw [put_at htp hl2, List.length_map, List.length_map, paired_len h4, paired_len h7]
    dsimp only
    rw [hG.all]; rfl
end
end Kn
namespace Kn
open PySem PySem.Spec PyProof.Rows L2
open Vbktaa (Form Size Item Items Part Parts Piece State allRows idxOf)
def formToldI (s : State) (t : List Nat) : List Int := match formI (s.pattern.sizes.map sgn) t with
  | none => [-3]
  | some f => 0 :: (fL f ++ intsN (Vbktaa.shownForm (lets (s.pattern.sizes.map sgn)) f))
def valueToldI (s : State) (t : List Nat) (l : List Int) : List Int := match formI (s.pattern.sizes.map sgn) t with
  | none => [-3]
  | some f => if sizeOk s.pattern.sizes l = false then [-2] else [0, Vbktaa.value l f]
def foundI (s : State) (t : List Nat) : List Int := match idxOf ((allRows s.pattern.parts).map fun x => x.1) t with
  | none => [-3]
  | some k => [0, (k : Int)]
def sizesI (ss : List Size) : List Int := 0 :: ss.flatMap fun z => [(sgn z : Int), (z.lo : Int), (z.step : Int), hiI z]
def ofPatternI (s : State) (n : Nat) : List Int := if s.there = false then [-1] else if n = 1 then 0 :: intsN (Vbktaa.shown s.pattern) else if n = 10 then [0, (breaks (Vbktaa.shown s.pattern) : Int)] else sizesI s.pattern.sizes
theorem sizeOk_len {ss : List Size} {l : List Int} (h : sizeOk ss l = true) : l.length = ss.length := by
  unfold sizeOk at h
  rw [Bool.and_eq_true] at h
  exact beq_iff_eq.mp h.1
section
variable {P : Program} {w : World} {K : PySem.W.Frag} {mg : Str → Option Value} {base : Heap}
/-! ### form_told -/
def spFormTold (K : PySem.W.Frag) : Sp := fun vs H Q _ => ∃ (v : V) (a : Addr) (s : State) (t : List Nat), vs = [v, .ref a] ∧ Held K H v s ∧ SqL K H a (VT t) ∧ t.length ≤ 3000 ∧ NewI H (formToldI s t) Q
theorem sc_form_told : FnScope ["pattern", "word", "letters", "form"] ["pattern", "word"] (defScope s_form_told) := ⟨rfl, rfl, rfl, by decide +kernel, rfl, by decide +kernel, by decide +kernel⟩
theorem ok_form_told (T : Txt K mg) (D : Def K mg "form_told" s_form_told) (c_letters_in : Cal P w K mg base CX0 2 "letters_in" ["pattern"] (spLettersIn K)) (c_form_of : Cal P w K mg base CX0 4 "form_of" ["word", "letters"] (spForm K)) (c_form_shown : Cal P w K mg base CX0 2 "form_shown" ["form", "letters"] (spFormShown K)) :
    Cal P w K mg base CX0 5 "form_told" ["pattern", "word"] (spFormTold K) := by
  have sc := sc_form_told
  refine Cal.mk' D sc (fun _ _ _ _ _ _ us hl => match us, hl with | [_, _], _ => rfl) (fun vs H Q E h => ?_) (fun f cdv A outer s H vs Q E hr h => ?_)
  · obtain ⟨_, _, _, _, rfl, _⟩ := h; rfl
  obtain ⟨v, a, st, t, rfl, hH, hS, hl, kk⟩ := h
  refine ⟨_, PSs.nox (pss_cons (ps_set (i := 2) sc.nd rfl (Or.inl rfl) (pe_f c_letters_in hr pass0 (pa_cons (pv 0) pa_nil)))
  (pss_cons (ps_set (i := 3) sc.nd rfl (Or.inl rfl) (pe_f c_form_of hr pass0 (pa_cons (pv 1) (pa_cons (pv 2) pa_nil))))
  (pss_cons (ps_if (pt_cmpR op_isN (pv 3) pe_non (nomark _)) (pss_one (ps_ret (pe_lst (pa_cons (pe_un un_neg pe_int) pa_nil)))) pss_nil)
  (pss_one (ps_ret (pe_op op_cat (pe_op op_cat (pe_lst (pa_cons pe_int pa_nil)) (pv 3)) (pe_f c_form_shown hr pass0 (pa_cons (pv 3) (pa_cons (pv 2) pa_nil))))))))), ?_⟩
  obtain ⟨hLt, h2⟩ := hH.letters
  have en : (st.pattern.sizes.map sgn).length = st.pattern.sizes.length := List.length_map _
  refine ⟨_, rfl, v, st, rfl, hH, fun H1 l s1 hl0 hl1 => ⟨_, rfl, _, rfl, a, l, t, _, rfl, s1.seq hS, SqL.of hl1, hl, by omega, hLt, fun H2 s2 => ?_⟩⟩
  unfold formToldI at kk
  cases e : formI (st.pattern.sizes.map sgn) t with
  | none =>
    rw [e] at kk
    refine ⟨_, rfl, rfl, _, rfl, if_true_of rfl ⟨_, rfl, small' (by show 1 ≤ 16000000; decide), fun p hp => ?_⟩⟩
    have t2 := s1.trans s2
    exact kk _ p (same_put t2 (t2.free hp)) (t2.free hp) upd_same
  | some fm =>
    rw [e] at kk
    intro b hb hF
    have hg := good_form (ls := st.pattern.sizes.map sgn) e
    have hfl : (fL fm).length ≤ 3 := by
      unfold fL
      rw [List.length_cons, hg.1]; omega
    refine ⟨_, rfl, rfl, _, rfl, if_false_of rfl ⟨small' (by show 1 ≤ 16000000; decide), fun p hp => ?_⟩⟩
    have t2 := s1.trans s2
    have s3 : Same H2 (upd H2 p (.lst [.int 0])) := same_new hp
    refine ⟨_, rfl, p, b, _, _, rfl, rfl, upd_same, s3 _ _ hF, small' (by rw [List.length_map]; show 1 + _ ≤ _; omega), fun q hq => ?_⟩
    have s4 := same_put (o := .lst ([.int 0] ++ (fL fm).map V.int)) s3 (s3.free hq)
    have hq4 : upd (upd H2 p (.lst [.int 0])) q (.lst ([.int 0] ++ (fL fm).map V.int)) q = some (.lst ([.int 0] ++ (fL fm).map V.int)) := upd_same
    generalize upd (upd H2 p (.lst [.int 0])) q (.lst ([.int 0] ++ (fL fm).map V.int)) = H3 at s4 hq4 ⊢
    refine ⟨_, rfl, _, rfl, b, l, fm, _, rfl, s4 _ _ hF, SqL.of (s4 _ _ (s2 _ _ hl1)), hg.1, by omega, hg.2, fun H4 r s5 hr0 hr4 => ?_⟩
    have hsl := shownForm_len (f := fm) (ls := st.pattern.sizes.map sgn) hg.2 hg.1
    refine ⟨q, r, _, _, rfl, rfl, s5 _ _ hq4, hr4, small' ?_, fun z hz => ?_⟩
    · rw [VT_len, List.length_append, List.length_map]
      show 1 + _ + _ ≤ _
      omega
    have t5 := (t2.trans s4).trans s5
    refine kk _ z (same_put t5 (t5.free hz)) (t5.free hz) ?_
    rw [upd_same]
    dsimp only
    rw [List.map_cons, List.map_append, intsN_V]; rfl
/-! ### value_told -/
def spValueTold (K : PySem.W.Frag) : Sp := fun vs H Q _ => ∃ (v : V) (a b : Addr) (s : State) (t : List Nat) (l : List Int), vs = [v, .ref a, .ref b] ∧ Held K H v s ∧ SqL K H a (VT t) ∧ t.length ≤ 3000 ∧ SqL K H b (l.map V.int) ∧ NewI H (valueToldI s t l) Q
theorem sc_value_told : FnScope ["pattern", "word", "size", "form"] ["pattern", "word", "size"] (defScope s_value_told) := ⟨rfl, rfl, rfl, by decide +kernel, rfl, by decide +kernel, by decide +kernel⟩
theorem ok_value_told (T : Txt K mg) (D : Def K mg "value_told" s_value_told) (c_letters_in : Cal P w K mg base CX0 2 "letters_in" ["pattern"] (spLettersIn K)) (c_form_of : Cal P w K mg base CX0 4 "form_of" ["word", "letters"] (spForm K)) (c_value_of : Cal P w K mg base CX0 1 "value_of" ["form", "size"] (spValue K))
    (c_is_own_size : Cal P w K mg base CX0 2 "is_own_size" ["pattern", "size"] (spIsOwn K)) : Cal P w K mg base CX0 5 "value_told" ["pattern", "word", "size"] (spValueTold K) := by
  have sc := sc_value_told
  refine Cal.mk' D sc (fun _ _ _ _ _ _ us hl => match us, hl with | [_, _, _], _ => rfl) (fun vs H Q E h => ?_) (fun f cdv A outer s H vs Q E hr h => ?_)
  · obtain ⟨_, _, _, _, _, _, rfl, _⟩ := h; rfl
  obtain ⟨v, a, b, st, t, l, rfl, hH, hS, hl, hb, kk⟩ := h
  refine ⟨_, PSs.nox (pss_cons (ps_set (i := 3) sc.nd rfl (Or.inl rfl) (pe_f c_form_of hr pass0 (pa_cons (pv 1) (pa_cons (pe_f c_letters_in hr pass0 (pa_cons (pv 0) pa_nil)) pa_nil))))
  (pss_cons (ps_if (pt_cmpR op_isN (pv 3) pe_non (nomark _)) (pss_one (ps_ret (pe_lst (pa_cons (pe_un un_neg pe_int) pa_nil)))) pss_nil)
  (pss_cons (ps_if (pt_not (pt_val (pe_f c_is_own_size hr pass0 (pa_cons (pv 0) (pa_cons (pv 2) pa_nil))))) (pss_one (ps_ret (pe_lst (pa_cons (pe_un un_neg pe_int) pa_nil)))) pss_nil)
  (pss_one (ps_ret (pe_lst (pa_cons pe_int (pa_cons (pe_f c_value_of hr pass0 (pa_cons (pv 3) (pa_cons (pv 2) pa_nil))) pa_nil)))))))), ?_⟩
  obtain ⟨hLt, h2⟩ := hH.letters
  have en : (st.pattern.sizes.map sgn).length = st.pattern.sizes.length := List.length_map _
  refine ⟨_, rfl, _, rfl, v, st, rfl, hH, fun H1 lp s1 hl0 hl1 => ⟨a, lp, t, _, rfl, s1.seq hS, SqL.of hl1, hl, by omega, hLt, fun H2 s2 => ?_⟩⟩
  unfold valueToldI at kk
  have t2 := s1.trans s2
  cases e : formI (st.pattern.sizes.map sgn) t with
  | none =>
    rw [e] at kk
    refine ⟨_, rfl, rfl, _, rfl, if_true_of rfl ⟨_, rfl, small' (by show 1 ≤ 16000000; decide), fun p hp => ?_⟩⟩
    exact kk _ p (same_put t2 (t2.free hp)) (t2.free hp) upd_same
  | some fm =>
    rw [e] at kk
    dsimp only at kk
    intro q hq hF
    have hg := good_form (ls := st.pattern.sizes.map sgn) e
    refine ⟨_, rfl, rfl, _, rfl, if_false_of rfl ⟨_, rfl, _, rfl, v, b, st, l, rfl, hH.mono t2, t2.seq hb, fun H3 s3 => ⟨_, rfl, ?_⟩⟩⟩
    have t3 := t2.trans s3
    cases es : sizeOk st.pattern.sizes l with
    | false =>
      rw [es, if_pos rfl] at kk
      refine if_true_of rfl ⟨_, rfl, small' (by show 1 ≤ 16000000; decide), fun p hp => ?_⟩
      exact kk _ p (same_put t3 (t3.free hp)) (t3.free hp) upd_same
    | true =>
      rw [es, if_neg (by decide)] at kk
      have hln := sizeOk_len es
      refine if_false_of rfl ⟨_, rfl, _, rfl, q, b, fm, l, rfl, s3 _ _ hF, t3.seq hb, by rw [hg.1, en, hln], hg.2, fun H4 s4 => ⟨small' (by show 2 ≤ 16000000; decide), fun p hp => ?_⟩⟩
      have t4 := t3.trans s4
      exact kk _ p (same_put t4 (t4.free hp)) (t4.free hp) upd_same
/-! ### found -/
def spFound (K : PySem.W.Frag) : Sp := fun vs H Q _ => ∃ (v : V) (a : Addr) (s : State) (t : List Nat), vs = [v, .ref a] ∧ Held K H v s ∧ SqL K H a (VT t) ∧ NewI H (foundI s t) Q
theorem sc_found : FnScope ["pattern", "word", "number", "name", "items"] ["pattern", "word"] (defScope s_found) := ⟨rfl, rfl, rfl, by decide +kernel, rfl, by decide +kernel, by decide +kernel⟩
theorem ok_found (T : Txt K mg) (D : Def K mg "found" s_found) : Cal P w K mg base CX0 1 "found" ["pattern", "word"] (spFound K) := by
  have sc := sc_found
  refine Cal.mk' D sc (fun _ _ _ _ _ _ us hl => match us, hl with | [_, _], _ => rfl) (fun vs H Q E h => ?_) (fun f cdv A outer s H vs Q E hr h => ?_)
  · obtain ⟨_, _, _, _, rfl, _⟩ := h; rfl
  obtain ⟨v, a, st, t, rfl, hH, hS, kk⟩ := h
  refine ⟨_, PSs.nox (pss_cons (ps_if (pt_cmpR op_notN (pv 0) pe_non (nomark _)) (pss_one (ps_for PassesOwn.never rfl (pi_enum (by rfl) T.f_enumerate (pa_cons (pe_fld (pv 0) rfl) pa_nil)) (pg_tup rfl (pgs_cons (pg_name (i := 2) sc.nd rfl (Or.inl rfl)) (pgs_cons (pg_tup rfl (pgs_cons (pg_name (i := 3) sc.nd rfl (Or.inl rfl)) (pgs_cons (pg_name (i := 4) sc.nd rfl (Or.inl rfl)) pgs_nil))) pgs_nil))) (pss_one (ps_if (pt_cmpR (op_eqT hr.units) (pv 3) (pv 1) (nomark _)) (pss_one (ps_ret (pe_lst (pa_cons pe_int (pa_cons (pv 2) pa_nil))))) pss_nil)))) pss_nil)
  (pss_one (ps_ret (pe_lst (pa_cons (pe_un un_neg pe_int) pa_nil))))), ?_⟩
  unfold foundI at kk
  refine ⟨_, rfl, rfl, _, rfl, ?_⟩
  rcases hH with ⟨rfl, _, _, h⟩ | ⟨p, rfl, _, rows, hF, hrows, h20⟩
  · rw [h] at kk
    exact if_false_of rfl ⟨_, rfl, small' (by show 1 ≤ 16000000; decide), fun p hp => kk _ p (same_new hp) hp upd_same⟩
  · refine if_true_of rfl ?_
    rw [hrows] at kk
    obtain ⟨dx, la, ca, ra, pa, las, rs, pus, h1, h3, h4, h5, h6, h7, h8, h9⟩ := hF.at_.ex
    refine ⟨_, rfl, p, _, dx, _, _, rfl, h1, T.cPattern, T.nPattern_rows, rfl, ra, _, rfl, SqL.of h6, for_it walk_enum (fun i σ H' => ∃ (v2 v3 v4 : Option V), σ = [some (.ref p), some (.ref a), v2, v3, v4] ∧ Same H H' ∧ t ∉ (rows.map fun x => x.1).take i)
      ⟨none, none, none, rfl, Same.refl H, by simp⟩ (fun i σ H' _ ⟨_, _, _, _, s, _⟩ => SqL.of (s _ _ h6)) ?_ ?_⟩
    · rintro i x σ H5 H6 hi ⟨v2, v3, v4, rfl, s5, hno⟩ ⟨q, x1, x2, rfl, hq, rfl, hx1, hx2⟩
      obtain ⟨c, hc, rfl⟩ := map_get hx2
      obtain ⟨y, hy, n, qi, us, g1, g2, g3, g4⟩ := paired_get h7 hc
      have ex1 := Option.some.inj hx1
      subst ex1
      have ey : (rows.map fun x => x.1)[i]? = some y.1 := by rw [List.getElem?_map, hy]; rfl
      have s6 : Same H5 (upd H5 q (.tup [.int (i : Nat), .ref c])) := same_new hq
      have t6 := s5.trans s6
      refine ⟨q, _, rfl, SqT.of upd_same, rfl, _, _, rfl, _, _, rfl, c, _, rfl, SqT.of (t6 _ _ g1), rfl, _, _, rfl, _, _, rfl, rfl, rfl, ?_⟩
      refine ⟨_, rfl, _, rfl, n, a, y.1, t, rfl, rfl, SqL.of (t6 _ _ g2), t6.seq hS, _, rfl, ?_⟩
      by_cases ce : y.1 = t
      · refine if_true_of (decide_eq_true ce) ⟨_, rfl, small' (by show 2 ≤ 16000000; decide), fun z hz => ?_⟩
        rw [idx_first (by rw [ey, ce]) hno] at kk
        exact kk _ z (same_put t6 (t6.free hz)) (t6.free hz) upd_same
      · refine if_false_of (decide_eq_false ce) ⟨_, _, _, rfl, t6, ?_⟩
        rw [take_more ey]
        intro m
        rcases List.mem_append.mp m with m | m
        · exact hno m
        · exact ce (List.mem_singleton.mp m).symm
    · rintro σ H5 ⟨v2, v3, v4, rfl, s5, hno⟩
      rw [List.length_map, paired_len h7, show rows.length = (rows.map fun x => x.1).length from (List.length_map _).symm, take_all] at hno
      rw [idx_absent hno] at kk
      exact ⟨_, rfl, small' (by show 1 ≤ 16000000; decide), fun z hz => kk _ z (same_put s5 (s5.free hz)) (s5.free hz) upd_same⟩
/-! ### sizes_told -/
def spSizesTold (K : PySem.W.Frag) : Sp := fun vs H Q _ => ∃ (p : Addr) (ss : List Size), vs = [.ref p] ∧ PatL K H p ss ∧ NewI H (sizesI ss) Q
theorem sc_sizes_told : FnScope ["pattern", "told", "letter"] ["pattern"] (defScope s_sizes_told) := ⟨rfl, rfl, rfl, by decide +kernel, rfl, by decide +kernel, by decide +kernel⟩
theorem ok_sizes_told (T : Txt K mg) (D : Def K mg "sizes_told" s_sizes_told) : Cal P w K mg base CX0 1 "sizes_told" ["pattern"] (spSizesTold K) := by
  have sc := sc_sizes_told
  refine Cal.mk' D sc (fun _ _ _ _ _ _ us hl => match us, hl with | [_], _ => rfl) (fun vs H Q E h => ?_) (fun f cdv A outer s H vs Q E hr h => ?_)
  · obtain ⟨_, _, rfl, _⟩ := h; rfl
  obtain ⟨p, ss, rfl, hP, kk⟩ := h
  refine ⟨_, PSs.nox (pss_cons (ps_set (i := 1) sc.nd rfl (Or.inl rfl) (pe_lst (pa_cons pe_int pa_nil)))
  (pss_cons (ps_for PassesOwn.never rfl (pi_list (pe_fld (pv 0) rfl)) (pg_name (i := 2) sc.nd rfl (Or.inl rfl)) (pss_one (ps_expr (pe_bm PySem.F.plainAttrs_list PySem.F.slot_list_extend PySem.F.type_list_extend mt_extend (pv 1) (pa_cons (pe_callTy call_list_of (by rfl) T.f_list (by decide +kernel) (pa_cons (pv 2) pa_nil)) pa_nil)))))
  (pss_one (ps_ret (pv 1))))), ?_⟩
  obtain ⟨dx, fs, la, as, h1, h2, h3, h4, h5⟩ := hP.ex
  have hlen := paired_len h5
  have hfew := hP.len
  refine ⟨small' (by show 1 ≤ 16000000; decide), fun o ho => ?_⟩
  have s0 : Same H (upd H o (.lst [.int 0])) := same_new ho
  refine ⟨_, rfl, p, _, dx, fs, _, rfl, s0 _ _ h1, T.cPattern, T.nPattern_letters, h2, la, rfl, ⟨_, SqL.of (s0 _ _ h4)⟩, for_it walk_list (fun i σ H' => ∃ (v2 : Option V), σ = [some (.ref p), some (.ref o), v2] ∧ Same H H' ∧ H' o = some (.lst ((sizesI (ss.take i)).map V.int)) ∧ (sizesI (ss.take i)).length = 1 + 4 * i)
    ⟨none, rfl, s0, upd_same, rfl⟩ (fun i σ H' _ ⟨_, _, s, _⟩ => SqL.of (s _ _ h4)) ?_ ?_⟩
  · rintro i x σ H1 H2 hi ⟨v2, rfl, s1, ho1, hl1⟩ ⟨rfl, hx⟩
    obtain ⟨a, ha, rfl⟩ := map_get hx
    obtain ⟨z, hz, hL⟩ := paired_get h5 ha
    have hi' : i < 100 := by rw [List.length_map] at hi; omega
    refine ⟨_, rfl, .inl ⟨rfl, _, SqL.of ho1⟩, _, rfl, a, _, rfl, .inr (SqT.of (s1 _ _ hL)), fun q hq => ?_⟩
    have s2 := same_new (o := .lst [.int (sgn z : Int), .int (z.lo : Int), .int (z.step : Int), .int (hiI z)]) hq
    refine ⟨o, q, _, _, rfl, rfl, s2 _ _ ho1, upd_same, small' (by rw [List.length_map, hl1]; show _ + 4 ≤ _; omega), ?_⟩
    have eT : sizesI (ss.take (i + 1)) = sizesI (ss.take i) ++ [(sgn z : Int), (z.lo : Int), (z.step : Int), hiI z] := by
      unfold sizesI
      rw [take_more hz, flatMap_snoc]; rfl
    refine ⟨_, rfl, same_put (s1.trans s2) ho, ?_, ?_⟩
    · rw [upd_same, eT, List.map_append]; rfl
    · rw [eT, List.length_append, hl1]
      show _ + 4 = _
      omega
  · rintro σ H1 ⟨v2, rfl, s1, ho1, _⟩
    rw [List.length_map, hlen, take_all] at ho1
    exact ⟨_, rfl, kk _ o s1 ho ho1⟩
/-! ### of_pattern -/
def spOfPattern (K : PySem.W.Frag) : Sp := fun vs H Q _ => ∃ (v : V) (n : Nat) (s : State), vs = [v, .int (n : Int)] ∧ Held K H v s ∧ NewI H (ofPatternI s n) Q
theorem sc_of_pattern : FnScope ["pattern", "number"] ["pattern", "number"] (defScope s_of_pattern) := ⟨rfl, rfl, rfl, by decide +kernel, rfl, by decide +kernel, by decide +kernel⟩
theorem ok_of_pattern (T : Txt K mg) (D : Def K mg "of_pattern" s_of_pattern) (c_pattern_shown : Cal P w K mg base CX0 13 "pattern_shown" ["pattern"] (spPatternShown K)) (c_count_words : Cal P w K mg base CX0 1 "count_words" ["text"] spCountWords) (c_sizes_told : Cal P w K mg base CX0 1 "sizes_told" ["pattern"] (spSizesTold K)) :
    Cal P w K mg base CX0 14 "of_pattern" ["pattern", "number"] (spOfPattern K) := by
  have sc := sc_of_pattern
  refine Cal.mk' D sc (fun _ _ _ _ _ _ us hl => match us, hl with | [_, _], _ => rfl) (fun vs H Q E h => ?_) (fun f cdv A outer s H vs Q E hr h => ?_)
  · obtain ⟨_, _, _, rfl, _⟩ := h; rfl
  obtain ⟨v, n, st, rfl, hH, kk⟩ := h
  refine ⟨_, PSs.nox (pss_cons (ps_if (pt_cmpR op_isN (pv 0) pe_non (nomark _)) (pss_one (ps_ret (pe_lst (pa_cons (pe_un un_neg pe_int) pa_nil)))) pss_nil)
  (pss_cons (ps_if (pt_cmpR op_eq (pv 1) pe_int (nomark _)) (pss_one (ps_ret (pe_op op_cat (pe_lst (pa_cons pe_int pa_nil)) (pe_f c_pattern_shown hr pass0 (pa_cons (pv 0) pa_nil))))) pss_nil)
  (pss_cons (ps_if (pt_cmpR op_eq (pv 1) pe_int (nomark _)) (pss_one (ps_ret (pe_lst (pa_cons pe_int (pa_cons (pe_f c_count_words hr pass0 (pa_cons (pe_f c_pattern_shown hr pass0 (pa_cons (pv 0) pa_nil)) pa_nil)) pa_nil))))) pss_nil)
  (pss_one (ps_ret (pe_f c_sizes_told hr pass0 (pa_cons (pv 0) pa_nil))))))), ?_⟩
  unfold ofPatternI at kk
  have ne : ∀ k : Nat, n ≠ k → decide (V.int (n : Int) = V.int (k : Int)) = false := fun k c => decide_eq_false (fun e => c (by have := V.int.inj e; omega))
  refine ⟨_, rfl, rfl, _, rfl, ?_⟩
  rcases hH with ⟨rfl, h, _, _⟩ | ⟨p, rfl, h, rows, hF, hrows, h20⟩
  · rw [if_pos h] at kk
    exact if_true_of rfl ⟨_, rfl, small' (by show 1 ≤ 16000000; decide), fun p hp => kk _ p (same_new hp) hp upd_same⟩
  · rw [if_neg (by rw [h]; decide)] at kk
    have hsl := shown_len hF
    refine if_false_of rfl ⟨_, rfl, rfl, _, rfl, ?_⟩
    by_cases c1 : n = 1
    · refine if_true_of (decide_eq_true (by rw [c1]; rfl)) ?_
      rw [if_pos c1] at kk
      refine ⟨small' (by show 1 ≤ 16000000; decide), fun z hz => ?_⟩
      have s1 : Same H (upd H z (.lst [.int 0])) := same_new hz
      refine ⟨_, rfl, p, _, rows, rfl, hF.mono s1, fun H2 q s2 hq hq2 => ⟨z, q, _, _, rfl, rfl, s2 _ _ upd_same, hq2, small' (by rw [VT_len]; show 1 + _ ≤ _; omega), fun r hr0 => ?_⟩⟩
      have t2 := s1.trans s2
      refine kk _ r (same_put t2 (t2.free hr0)) (t2.free hr0) ?_
      rw [upd_same, List.map_cons, intsN_V]; rfl
    refine if_false_of (ne 1 c1) ⟨_, rfl, rfl, _, rfl, ?_⟩
    rw [if_neg c1] at kk
    by_cases c2 : n = 10
    · refine if_true_of (decide_eq_true (by rw [c2]; rfl)) ?_
      rw [if_pos c2] at kk
      refine ⟨_, rfl, p, _, rows, rfl, hF, fun H2 q s2 hq hq2 => ⟨q, _, rfl, hq2, hsl, fun H3 s3 => ⟨small' (by show 2 ≤ 16000000; decide), fun z hz => ?_⟩⟩⟩
      have t3 := s2.trans s3
      exact kk _ z (same_put t3 (t3.free hz)) (t3.free hz) upd_same
    · refine if_false_of (ne 10 c2) ?_
      rw [if_neg c2] at kk
      exact ⟨_, rfl, p, _, rfl, hF.letters, kk⟩
end
end Kn
namespace Kn
open PySem PySem.Spec PyProof.Rows L2
open Vbktaa (Form Size Item Items Part Parts Piece State allRows idxOf knitParts FUEL)
theorem knit0_err {q : Vbktaa.Pattern} {v : List Int} {w : Vbktaa.Wrong} (h : knit0 q v = .error w) : 1 ≤ w.why := by
  unfold knit0 at h
  by_cases c1 : Vbktaa.value v q.cast < 1
  · rw [if_pos c1] at h; cases h; show 1 ≤ 6; decide
  · rw [if_neg c1] at h
    by_cases c2 : (1500 : Int) < Vbktaa.value v q.cast
    · rw [if_pos c2] at h; cases h; show 1 ≤ 5; decide
    · rw [if_neg c2] at h
      exact (piece_e v FUEL).parts _ _ w h
theorem tot_rev (l : List (Nat × List Nat)) : tot l.reverse = tot l := by
  unfold tot
  rw [List.map_reverse, List.sum_reverse]
theorem knit0_ok {q : Vbktaa.Pattern} {v : List Int} {x : Piece} {rows : List (List Nat × Items)} (hr : ∀ y ∈ rows, RowG v.length y) (hp : PartsOk v.length rows q.parts 3) (h : knit0 q v = .ok x) (few : x.rows.length ≤ 1500) :
    DoneG x.rows.reverse (wids (Vbktaa.value v q.cast).toNat x.rows.reverse) := by
  unfold knit0 at h
  by_cases c1 : Vbktaa.value v q.cast < 1
  · rw [if_pos c1] at h; cases h
  · rw [if_neg c1] at h
    by_cases c2 : (1500 : Int) < Vbktaa.value v q.cast
    · rw [if_pos c2] at h; cases h
    · rw [if_neg c2] at h
      have g := (piece_g v v.length rows (fun y hy => (hr y hy).good) FUEL).parts _ _ _ x hp h
      have g2 : tot x.rows + x.left ≤ 0 + 1500 := g.few
      refine ⟨by rw [List.length_reverse]; exact few, by rw [tot_rev]; omega, fun r hr => g.out (fun _ h => absurd h (List.not_mem_nil)) r (List.mem_reverse.mp hr), ?_, fun c hc => ?_⟩
      · unfold wids
        rw [List.length_cons, List.length_map]
      · cases hc
        omega
def ofSizeI (s : State) (n : Nat) (i : Int) (l : List Int) : List Int := if s.there = false then [-1] else if sizeOk s.pattern.sizes l = false then [-2] else match knit0 s.pattern l with
  | .error w => [1, (w.done : Int), rowI w, (w.why : Int)]
  | .ok x => toldI n i x.rows.reverse (wids (Vbktaa.value l s.pattern.cast).toNat x.rows.reverse)
def triedI (t : List Nat) (l : List Int) : List Int := match Vbktaa.readText t with
  | .inl x => [1, (x.1 : Int), (x.2 : Int)]
  | .inr q => if sizeOk q.sizes l = false then [-2] else match knit0 q l with
    | .error w => [2, (w.done : Int), (w.why : Int)]
    | .ok x => [0, (x.rows.length : Int), (x.width : Int)]
section
variable {P : Program} {w : World} {K : PySem.W.Frag} {mg : Str → Option Value} {base : Heap}
/-! ### of_size -/
def spOfSize (K : PySem.W.Frag) : Sp := fun vs H Q _ => ∃ (v : V) (nb b : Addr) (n : Nat) (i : Int) (us : List V) (s : State) (l : List Int), vs = [v, .int (n : Int), .ref nb, .ref b] ∧ Held K H v s ∧ SqL K H nb us ∧ (n = 3 → us[0]? = some (.int i)) ∧ H b = some (.lst (l.map V.int)) ∧ NewI H (ofSizeI s n i l) Q
theorem sc_of_size : FnScope ["pattern", "number", "numbers", "size", "work", "why"] ["pattern", "number", "numbers", "size"] (defScope s_of_size) := ⟨rfl, rfl, rfl, by decide +kernel, rfl, by decide +kernel, by decide +kernel⟩
theorem ok_of_size (T : Txt K mg) (D : Def K mg "of_size" s_of_size) (c_is_size : Cal P w K mg base CX0 1 "is_size" ["pattern", "size"] (spIsSize K)) (c_knit : Cal P w K mg base (L2.CX P w) 19 "knit" ["pattern", "size"] (spKnit K)) (c_told_of : Cal P w K mg base CX0 5 "told_of" ["work", "number", "numbers"] (spToldOf K)) :
    Cal P w K mg base (L2.CX P w) 20 "of_size" ["pattern", "number", "numbers", "size"] (spOfSize K) := by
  have sc := sc_of_size
  refine Cal.mk' D sc (fun _ _ _ _ _ _ us hl => match us, hl with | [_, _, _, _], _ => rfl) (fun vs H Q E h => ?_) (fun f cdv A outer s H vs Q E hr h => ?_)
  · obtain ⟨_, _, _, _, _, _, _, _, rfl, _⟩ := h; rfl
  obtain ⟨v, nb, b, n, i, us, st, l, rfl, hH, hnb, hi3, hb, kk⟩ := h
  refine ⟨_, (pss_cons (ps_if (pt_cmpR op_isN (pv 0) pe_non (nomark _)) (pss_one (ps_ret (pe_lst (pa_cons (pe_un un_neg pe_int) pa_nil)))) pss_nil)
  (pss_cons (ps_if (pt_not (pt_val (pe_f c_is_size hr pass0 (pa_cons (pv 0) (pa_cons (pv 3) pa_nil))))) (pss_one (ps_ret (pe_lst (pa_cons (pe_un un_neg pe_int) pa_nil)))) pss_nil)
  (pss_cons (ps_asg (pe_f c_knit hr passR (pa_cons (pv 0) (pa_cons (pv 3) pa_nil))) (pg_tup rfl (pgs_cons (pg_name (i := 4) sc.nd rfl (Or.inl rfl)) (pgs_cons (pg_name (i := 5) sc.nd rfl (Or.inl rfl)) pgs_nil))))
  (pss_cons (ps_if (pt_cmpR op_gt (pv 5) pe_int (nomark _)) (pss_one (ps_ret (pe_lst (pa_cons pe_int (pa_cons (pe_callB call_len_seq (by rfl) T.f_len (by decide +kernel) (pa_cons (pe_fld (pv 4) rfl) pa_nil)) (pa_cons (pe_fld (pv 4) rfl) (pa_cons (pv 5) pa_nil))))))) pss_nil)
  (pss_one (ps_ret (pe_f c_told_of hr pass0 (pa_cons (pv 4) (pa_cons (pv 1) (pa_cons (pv 2) pa_nil)))))))))), ?_⟩
  unfold ofSizeI at kk
  refine ⟨_, rfl, rfl, _, rfl, ?_⟩
  rcases hH with ⟨rfl, h, _, _⟩ | ⟨p, rfl, h, rows, hF, hrows, h20⟩
  · rw [if_pos h] at kk
    exact if_true_of rfl ⟨_, rfl, small' (by show 1 ≤ 16000000; decide), fun p hp => kk _ p (same_new hp) hp upd_same⟩
  rw [if_neg (by rw [h]; decide)] at kk
  refine if_false_of rfl ⟨_, rfl, _, rfl, p, b, _, l, rfl, hF.letters, fun z hz => (hF.sizes z hz).step.1, SqL.of hb, fun H1 s1 => ⟨_, rfl, ?_⟩⟩
  cases es : sizeOk st.pattern.sizes l with
  | false =>
    rw [es, if_pos rfl] at kk
    exact if_true_of rfl ⟨_, rfl, small' (by show 1 ≤ 16000000; decide), fun q hq => kk _ q (same_put s1 (s1.free hq)) (s1.free hq) upd_same⟩
  | true =>
    rw [es, if_neg (by decide)] at kk
    have hln := sizeOk_len es
    have F : Fits st.pattern rows l.length := ⟨by rw [hln]; exact hF.rowg, by rw [hln]; exact hF.parts, by rw [hln]; exact hF.cast⟩
    refine if_false_of rfl ⟨_, rfl, _, rfl, p, b, _, rows, l, rfl, s1 _ _ hb, hF.at_.mono s1, F, ?_⟩
    unfold KnitQ
    cases ek : knit0 st.pattern l with
    | error w =>
      rw [ek] at kk
      have h1 := knit0_err ek
      intro H2 F2 t wk r done ws hS hd ht
      have s2 : Same H H2 := s1.trans (hS.s0.trans hS.s1)
      obtain ⟨dx, fs, dn, wd, ds, w1, w2, w3, w4, w5, w6, w7⟩ := hS.wd.ex
      refine ⟨t, _, rfl, SqT.of ht, rfl, _, _, rfl, _, _, rfl, rfl, ?_⟩
      refine ⟨_, rfl, _, _, rfl, rfl, _, rfl, if_true_of (decide_eq_true (by omega)) ?_⟩
      refine ⟨_, rfl, wk, _, dx, fs, _, rfl, w1, T.cWork, T.nWork_done, w2, dn, _, rfl, .inl (SqL.of w5), _, rfl, wk, _, dx, fs, _, rfl, w1, T.cWork, T.nWork_row, w4, _, rfl, small' (by show 4 ≤ 16000000; decide), fun q hq => ?_⟩
      refine kk _ q (same_put s2 (s2.free hq)) (s2.free hq) ?_
      rw [upd_same, List.length_map, paired_len w6, hd]; rfl
    | ok x =>
      rw [ek] at kk
      intro H2 F2 t wk hW ht
      obtain ⟨r, hr1, hS⟩ := hW.ex
      have s2 : Same H H2 := s1.trans (hS.s0.trans hS.s1)
      refine ⟨t, _, rfl, SqT.of ht, rfl, _, _, rfl, _, _, rfl, rfl, ?_⟩
      refine ⟨_, rfl, _, _, rfl, rfl, _, rfl, if_false_of (decide_eq_false (by decide)) ?_⟩
      have hG := knit0_ok F.rowg F.parts ek (by have := hW.few; omega)
      refine ⟨_, rfl, _, rfl, _, rfl, wk, nb, n, i, _, us, _, _, rfl, hS.wd, hG, s2.seq hnb, hi3, fun H3 q s3 hq hq3 => ?_⟩
      exact kk H3 q (s2.trans s3) (s2.free hq) hq3
/-! ### tried -/
def spTried (K : PySem.W.Frag) : Sp := fun vs H Q _ => ∃ (a b : Addr) (t : List Nat) (l : List Int), vs = [.ref a, .ref b] ∧ SqL K H a (VT t) ∧ t.length ≤ 2400 ∧ H b = some (.lst (l.map V.int)) ∧ NewI H (triedI t l) Q
theorem sc_tried : FnScope ["text", "size", "pattern", "fault", "work", "why"] ["text", "size"] (defScope s_tried) := ⟨rfl, rfl, rfl, by decide +kernel, rfl, by decide +kernel, by decide +kernel⟩
theorem ok_tried (T : Txt K mg) (D : Def K mg "tried" s_tried) (c_is_size : Cal P w K mg base CX0 1 "is_size" ["pattern", "size"] (spIsSize K)) (c_knit : Cal P w K mg base (L2.CX P w) 19 "knit" ["pattern", "size"] (spKnit K)) (c_read_pattern : Cal P w K mg base (L2.CX P w) 20 "read_pattern" ["text"] (spReadP K)) :
    Cal P w K mg base (L2.CX P w) 21 "tried" ["text", "size"] (spTried K) := by
  have sc := sc_tried
  refine Cal.mk' D sc (fun _ _ _ _ _ _ us hl => match us, hl with | [_, _], _ => rfl) (fun vs H Q E h => ?_) (fun f cdv A outer s H vs Q E hr h => ?_)
  · obtain ⟨_, _, _, _, rfl, _⟩ := h; rfl
  obtain ⟨a, b, t, l, rfl, hS, hl, hb, kk⟩ := h
  refine ⟨_, (pss_cons (ps_try_as (i := 3) rfl rfl sc.nd rfl rfl ⟨rfl, by decide, Or.inl T.gWrong⟩ takes0 (fun W pn xe tk _ => (pss_one (ps_set (i := 2) sc.nd rfl (Or.inl rfl) (pe_fS c_read_pattern hr (fun σ => passAt tk σ) (by exact (pa_cons (pv 0) pa_nil)))))) (fun a oe cls d pn hz hf => (pss_one (ps_ret (pe_lst (pa_cons pe_int (pa_cons (pe_xf T.xfWrong T.nWrong_line hz hf (pv 3)) (pa_cons (pe_xf T.xfWrong T.nWrong_why hz hf (pv 3)) pa_nil))))))))
  (pss_cons (ps_if (pt_not (pt_val (pe_f c_is_size hr pass0 (pa_cons (pv 2) (pa_cons (pv 1) pa_nil))))) (pss_one (ps_ret (pe_lst (pa_cons (pe_un un_neg pe_int) pa_nil)))) pss_nil)
  (pss_cons (ps_asg (pe_f c_knit hr passR (pa_cons (pv 2) (pa_cons (pv 1) pa_nil))) (pg_tup rfl (pgs_cons (pg_name (i := 4) sc.nd rfl (Or.inl rfl)) (pgs_cons (pg_name (i := 5) sc.nd rfl (Or.inl rfl)) pgs_nil))))
  (pss_cons (ps_if (pt_cmpR op_gt (pv 5) pe_int (nomark _)) (pss_one (ps_ret (pe_lst (pa_cons pe_int (pa_cons (pe_callB call_len_seq (by rfl) T.f_len (by decide +kernel) (pa_cons (pe_fld (pv 4) rfl) pa_nil)) (pa_cons (pv 5) pa_nil)))))) pss_nil)
  (pss_one (ps_ret (pe_lst (pa_cons pe_int (pa_cons (pe_callB call_len_seq (by rfl) T.f_len (by decide +kernel) (pa_cons (pe_fld (pv 4) rfl) pa_nil)) (pa_cons (pe_ix ix_list (pe_fld (pv 4) rfl) (pe_un un_neg pe_int) (fun _ _ => rfl)) pa_nil)))))))))), ?_⟩
  unfold triedI at kk
  refine ⟨_, rfl, a, t, rfl, hS, hl, fun e he => ?_, fun q hq rows hG h20 H1 p s1 hp hPA => ?_⟩
  · rw [he] at kk
    intro d H1 s1 hx
    refine ⟨true, T.eWrong, fun _ x hx0 => ?_, fun z => absurd z (by decide)⟩
    refine ⟨_, rfl, rfl, rfl, d, _, _, rfl, hx, rfl, _, rfl, rfl, rfl, d, _, _, rfl, hx, rfl, small' (by show 3 ≤ 16000000; decide), fun z hz => ?_⟩
    exact kk _ z (same_put s1 (s1.free hz)) (s1.free hz) upd_same
  · rw [hq] at kk
    dsimp only at kk
    have hW0 : PatW K H1 p q := hG.patW h20 (text_two hq) hPA
    obtain ⟨rows', hF, _, _⟩ := hW0
    refine ⟨_, rfl, _, rfl, p, b, _, l, rfl, hF.letters, fun z hz => (hF.sizes z hz).step.1, SqL.of (s1 _ _ hb), fun H2 s2 => ⟨_, rfl, ?_⟩⟩
    have t2 := s1.trans s2
    cases es : sizeOk q.sizes l with
    | false =>
      rw [es, if_pos rfl] at kk
      exact if_true_of rfl ⟨_, rfl, small' (by show 1 ≤ 16000000; decide), fun z hz => kk _ z (same_put t2 (t2.free hz)) (t2.free hz) upd_same⟩
    | true =>
      rw [es, if_neg (by decide)] at kk
      have hln := sizeOk_len es
      have F : Fits q rows' l.length := ⟨by rw [hln]; exact hF.rowg, by rw [hln]; exact hF.parts, by rw [hln]; exact hF.cast⟩
      refine if_false_of rfl ⟨_, rfl, _, rfl, p, b, _, rows', l, rfl, t2 _ _ hb, hF.at_.mono s2, F, ?_⟩
      unfold KnitQ
      cases ek : knit0 q l with
      | error w =>
        rw [ek] at kk
        have h1 := knit0_err ek
        intro H3 F2 tp wk r done ws hS3 hd ht
        have s3 : Same H H3 := t2.trans (hS3.s0.trans hS3.s1)
        obtain ⟨dx, fs, dn, wd, ds, w1, w2, w3, w4, w5, w6, w7⟩ := hS3.wd.ex
        refine ⟨tp, _, rfl, SqT.of ht, rfl, _, _, rfl, _, _, rfl, rfl, ?_⟩
        refine ⟨_, rfl, _, _, rfl, rfl, _, rfl, if_true_of (decide_eq_true (by omega)) ?_⟩
        refine ⟨_, rfl, wk, _, dx, fs, _, rfl, w1, T.cWork, T.nWork_done, w2, dn, _, rfl, .inl (SqL.of w5), _, rfl, small' (by show 3 ≤ 16000000; decide), fun z hz => ?_⟩
        refine kk _ z (same_put s3 (s3.free hz)) (s3.free hz) ?_
        rw [upd_same, List.length_map, paired_len w6, hd]; rfl
      | ok x =>
        rw [ek] at kk
        intro H3 F2 tp wk hW ht
        obtain ⟨r, hr1, hS3⟩ := hW.ex
        have s3 : Same H H3 := t2.trans (hS3.s0.trans hS3.s1)
        obtain ⟨dx, fs, dn, wd, ds, w1, w2, w3, w4, w5, w6, w7⟩ := hS3.wd.ex
        refine ⟨tp, _, rfl, SqT.of ht, rfl, _, _, rfl, _, _, rfl, rfl, ?_⟩
        refine ⟨_, rfl, _, _, rfl, rfl, _, rfl, if_false_of (decide_eq_false (by decide)) ?_⟩
        have hat : atI (VT (wids (Vbktaa.value l q.cast).toNat x.rows.reverse)) (-1) = some (.int (x.width : Int)) := by
          have hwid := hW.wid
          rcases List.eq_nil_or_concat (wids (Vbktaa.value l q.cast).toNat x.rows.reverse) with e | ⟨m, y, e⟩
          · rw [e] at hwid; cases hwid
          · rw [List.concat_eq_append] at e
            rw [e] at hwid ⊢
            rw [List.getLast?_append] at hwid
            cases hwid
            rw [VT_app]
            exact atI_last _ _
        refine ⟨_, rfl, wk, _, dx, fs, _, rfl, w1, T.cWork, T.nWork_done, w2, dn, _, rfl, .inl (SqL.of w5), _, rfl, wk, _, dx, fs, _, rfl, w1, T.cWork, T.nWork_widths, w3, _, rfl, wd, _, _, _, rfl, rfl, SqL.of w7, hat, small' (by show 3 ≤ 16000000; decide), fun z hz => ?_⟩
        refine kk _ z (same_put s3 (s3.free hz)) (s3.free hz) ?_
        rw [upd_same, List.length_map, paired_len w6, List.length_reverse]; rfl
end
end Kn
namespace Kn
open PySem PySem.Spec PyProof.Rows L2
open PyFlat (put put1 putRow putRows okCall)
/-! ### places in a flat list -/
theorem cut_mid (l1 m l2 : List V) : cutV (l1 ++ (m ++ l2)) (some (l1.length : Int)) (some ((l1.length + m.length : Nat) : Int)) = m := by
  have e1 : HT.sIx (l1 ++ (m ++ l2)).length 0 (some (l1.length : Int)) = l1.length := by
    rw [HT.sIx]
    simp only [List.length_append]
    split <;> omega
  have e2 : HT.sIx (l1 ++ (m ++ l2)).length (l1 ++ (m ++ l2)).length (some ((l1.length + m.length : Nat) : Int)) = l1.length + m.length := by
    rw [HT.sIx]
    simp only [List.length_append]
    split <;> omega
  unfold cutV
  rw [e1, e2, List.drop_left, Nat.add_sub_cancel_left, List.take_left]
theorem cut_at {xs l1 m l2 : List V} {i j : Nat} (e : xs = l1 ++ (m ++ l2)) (hi : i = l1.length) (hj : j = l1.length + m.length) : cutV xs (some (i : Int)) (some (j : Int)) = m := by
  subst e hi hj
  exact cut_mid l1 m l2
theorem get_at {α : Type} {xs l1 l2 : List α} {y : α} {i : Nat} (e : xs = l1 ++ y :: l2) (hi : i = l1.length) : xs[i]? = some y := by
  subst e hi
  rw [List.getElem?_append_right (Nat.le_refl _), Nat.sub_self]; rfl
theorem shape_known {p : Int} {n k : Nat} (h : PyVbktaa.shape p = some (n, k)) : ∃ m : Nat, p = (m : Int) ∧ m < 14 ∧ ([.int (0), .int (0), .int (0), .int (1), .int (0), .int (0), .int (0), .int (0), .int (0), .int (0), .int (0), .int (0), .int (0), .int (0)] : List V)[m]? = some (.int (n : Int)) ∧
    ([.int (1), .int (0), .int (1), .int (1), .int (1), .int (1), .int (1), .int (1), .int (2), .int (1), .int (0), .int (1), .int (2), .int (0)] : List V)[m]? = some (.int (k : Int)) := by
  unfold PyVbktaa.shape at h
  by_cases c0 : p = 0
  · rw [if_pos c0] at h
    cases h
    exact ⟨0, c0, by decide, rfl, rfl⟩
  rw [if_neg c0] at h
  by_cases c1 : p = 1
  · rw [if_pos c1] at h
    cases h
    exact ⟨1, c1, by decide, rfl, rfl⟩
  rw [if_neg c1] at h
  by_cases c2 : p = 2
  · rw [if_pos c2] at h
    cases h
    exact ⟨2, c2, by decide, rfl, rfl⟩
  rw [if_neg c2] at h
  by_cases c3 : p = 3
  · rw [if_pos c3] at h
    cases h
    exact ⟨3, c3, by decide, rfl, rfl⟩
  rw [if_neg c3] at h
  by_cases c4 : p = 4
  · rw [if_pos c4] at h
    cases h
    exact ⟨4, c4, by decide, rfl, rfl⟩
  rw [if_neg c4] at h
  by_cases c5 : p = 5
  · rw [if_pos c5] at h
    cases h
    exact ⟨5, c5, by decide, rfl, rfl⟩
  rw [if_neg c5] at h
  by_cases c6 : p = 6
  · rw [if_pos c6] at h
    cases h
    exact ⟨6, c6, by decide, rfl, rfl⟩
  rw [if_neg c6] at h
  by_cases c7 : p = 7
  · rw [if_pos c7] at h
    cases h
    exact ⟨7, c7, by decide, rfl, rfl⟩
  rw [if_neg c7] at h
  by_cases c8 : p = 8
  · rw [if_pos c8] at h
    cases h
    exact ⟨8, c8, by decide, rfl, rfl⟩
  rw [if_neg c8] at h
  by_cases c9 : p = 9
  · rw [if_pos c9] at h
    cases h
    exact ⟨9, c9, by decide, rfl, rfl⟩
  rw [if_neg c9] at h
  by_cases c10 : p = 10
  · rw [if_pos c10] at h
    cases h
    exact ⟨10, c10, by decide, rfl, rfl⟩
  rw [if_neg c10] at h
  by_cases c11 : p = 11
  · rw [if_pos c11] at h
    cases h
    exact ⟨11, c11, by decide, rfl, rfl⟩
  rw [if_neg c11] at h
  by_cases c12 : p = 12
  · rw [if_pos c12] at h
    cases h
    exact ⟨12, c12, by decide, rfl, rfl⟩
  rw [if_neg c12] at h
  by_cases c13 : p = 13
  · rw [if_pos c13] at h
    cases h
    exact ⟨13, c13, by decide, rfl, rfl⟩
  rw [if_neg c13] at h
  cases h
theorem put_snoc (c : List (List Int)) : ∀ cs : List (List (List Int)), put (cs ++ [c]) = put cs ++ put1 c
  | [] => by show put1 c ++ [] = [] ++ put1 c; simp
  | d :: cs => by
    show put1 d ++ put (cs ++ [c]) = (put1 d ++ put cs) ++ put1 c
    rw [put_snoc c cs, List.append_assoc]
theorem put_app (ds : List (List (List Int))) : ∀ cs : List (List (List Int)), put (cs ++ ds) = put cs ++ put ds
  | [] => rfl
  | d :: cs => by
    show put1 d ++ put (cs ++ ds) = (put1 d ++ put cs) ++ put ds
    rw [put_app ds cs, List.append_assoc]
theorem rows_app (ds : List (List Int)) : ∀ cs : List (List Int), putRows (cs ++ ds) = putRows cs ++ putRows ds
  | [] => rfl
  | d :: cs => by
    show putRow d ++ putRows (cs ++ ds) = (putRow d ++ putRows cs) ++ putRows ds
    rw [rows_app ds cs, List.append_assoc]
theorem same_del2 {H H' : Hp} {o : Addr} (s : Same H H') : Same (del H o) (del H' o) := fun b u h => by
  by_cases e : b = o
  · rw [e, del_same] at h; cases h
  · rw [del_ne e] at h ⊢; exact s _ _ h
theorem same_del_upd {H : Hp} {o : Addr} {x : HO} : Same (del H o) (del (upd H o x) o) := fun b u h => by
  by_cases e : b = o
  · rw [e, del_same] at h; cases h
  · rw [del_ne e] at h ⊢; rw [upd_ne e]; exact h
theorem del_le {H : Hp} {o : Addr} : Same (del H o) H := fun b u h => by
  by_cases e : b = o
  · rw [e, del_same] at h; cases h
  · rw [del_ne e] at h; exact h
/-- a call, laid out -/
def CallAt (F : Hp) (t : Addr) (c : List (List Int)) : Prop := ∃ (p : Int) (a : List Int) (rows : List (List Int)) (nb lb : Addr) (bs : List Addr), c = (p :: a) :: rows ∧ F t = some (.tup [.int p, .ref nb, .ref lb]) ∧ F nb = some (.lst (a.map V.int)) ∧ F lb = some (.lst (bs.map V.ref)) ∧ Paired (fun b l => F b = some (.lst (l.map V.int))) bs rows
theorem CallAt.mono {F G : Hp} {t : Addr} {c : List (List Int)} (s : Same F G) (h : CallAt F t c) : CallAt G t c := by
  obtain ⟨p, a, rows, nb, lb, bs, h1, h2, h3, h4, h5⟩ := h
  exact ⟨p, a, rows, nb, lb, bs, h1, s _ _ h2, s _ _ h3, s _ _ h4, paired_mono (fun _ _ r => s _ _ r) h5⟩
end Kn
namespace Kn
open PySem PySem.Spec PyProof.Rows L2
open PyFlat (put put1 putRow putRows okCall)
theorem off_del_upd {H0 H : Hp} {o : Addr} {x : HO} : Same (del (Off H0 H) o) (del (Off H0 (upd H o x)) o) := fun b u h => by
  by_cases e : b = o
  · rw [e, del_same] at h; cases h
  · rw [del_ne e] at h ⊢
    obtain ⟨h1, h2⟩ := off_some h
    exact off_at h1 (by rw [upd_ne e]; exact h2)
section
variable {P : Program} {w : World} {K : PySem.W.Frag} {mg : Str → Option Value} {base : Heap}
/-! ### calls_of -/
def spCalls (K : PySem.W.Frag) : Sp := fun vs H Q _ => ∃ (a : Addr) (raw : List (List (List Int))), vs = [.ref a] ∧ SqL K H a ((put raw).map V.int) ∧ raw.length ≤ 1000 ∧ (∀ c ∈ raw, okCall PyVbktaa.shape c ∧ c.length ≤ 10) ∧
  ∀ (H' : Hp) (p : Addr) (cs : List Addr), Same H H' → H p = none → H' p = some (.lst (cs.map V.ref)) → Paired (CallAt (Off H H')) cs raw → Q (.ref p) H'
theorem sc_calls_of : FnScope ["calls", "found", "at", "number", "here", "numbers", "lists", "turn", "behind"] ["calls"] (defScope s_calls_of) := ⟨rfl, rfl, rfl, by decide +kernel, rfl, by decide +kernel, by decide +kernel⟩
theorem ok_calls_of (T : Txt K mg) (D : Def K mg "calls_of" s_calls_of) : Cal P w K mg base CX0 1 "calls_of" ["calls"] (spCalls K) := by
  have sc := sc_calls_of
  refine Cal.mk' D sc (fun _ _ _ _ _ _ us hl => match us, hl with | [_], _ => rfl) (fun vs H Q E h => ?_) (fun f cdv A outer s H vs Q E hr h => ?_)
  · obtain ⟨_, _, rfl, _⟩ := h; rfl
  obtain ⟨a, raw, rfl, ha, h150, hok, kk⟩ := h
  refine ⟨_, PSs.nox (pss_cons (ps_set (i := 1) sc.nd rfl (Or.inl rfl) (pe_lst pa_nil))
  (pss_cons (ps_set (i := 2) sc.nd rfl (Or.inl rfl) pe_int)
  (pss_cons (ps_while PassesOwn.never (pt_cmpR op_lt (pv 2) (pe_callB call_len_seq (by rfl) T.f_len (by decide +kernel) (pa_cons (pv 0) pa_nil)) (nomark _)) (pss_cons (ps_set (i := 3) sc.nd rfl (Or.inl rfl) (pe_ix ix_list (pv 0) (pv 2) (fun _ _ => rfl)))
    (pss_cons (ps_set (i := 4) sc.nd rfl (Or.inl rfl) (pe_op op_add (pe_op op_add (pv 2) pe_int) (pe_ix ix_tup (pe_gr T.g_NUMBERS) (pv 3) (fun _ _ => rfl))))
    (pss_cons (ps_set (i := 5) sc.nd rfl (Or.inl rfl) (pe_slice sl_list (pv 0) (po_some (pe_op op_add (pv 2) pe_int)) (po_some (pv 4))))
    (pss_cons (ps_set (i := 6) sc.nd rfl (Or.inl rfl) (pe_lst pa_nil))
    (pss_cons (ps_for PassesOwn.never rfl (pi_range1 rfl T.f_range (pa_cons (pe_ix ix_tup (pe_gr T.g_LISTS) (pv 3) (fun _ _ => rfl)) pa_nil)) (pg_name (i := 7) sc.nd rfl (Or.inl rfl)) (pss_cons (ps_set (i := 8) sc.nd rfl (Or.inl rfl) (pe_op op_add (pe_op op_add (pv 4) pe_int) (pe_ix ix_list (pv 0) (pv 4) (fun _ _ => rfl))))
      (pss_cons (ps_expr (pe_bm PySem.F.plainAttrs_list PySem.F.slot_list_append PySem.F.type_list_append mt_append (pv 6) (pa_cons (pe_slice sl_list (pv 0) (po_some (pe_op op_add (pv 4) pe_int)) (po_some (pv 8))) pa_nil)))
      (pss_one (ps_set (i := 4) sc.nd rfl (Or.inl rfl) (pv 8))))))
    (pss_cons (ps_expr (pe_bm PySem.F.plainAttrs_list PySem.F.slot_list_append PySem.F.type_list_append mt_append (pv 1) (pa_cons (pe_tup (pa_cons (pv 3) (pa_cons (pv 5) (pa_cons (pv 6) pa_nil)))) pa_nil)))
    (pss_one (ps_set (i := 2) sc.nd rfl (Or.inl rfl) (pv 4))))))))))
  (pss_one (ps_ret (pv 1)))))), ?_⟩
  refine ⟨small' (by decide), fun o ho => ?_⟩
  have s0 : Same H (upd H o (.lst [])) := same_new ho
  refine ⟨fun m σ H' => ∃ (done rest : List (List (List Int))) (cs : List Addr) (v3 v4 v5 v6 v7 v8 : Option V), m = rest.length ∧ raw = done ++ rest ∧ σ = [some (.ref a), some (.ref o), some (.int ((put done).length : Int)), v3, v4, v5, v6, v7, v8] ∧ Same H H' ∧ H' o = some (.lst (cs.map V.ref)) ∧ Paired (CallAt (del (Off H H') o)) cs done,
    ⟨_, [], raw, [], none, none, none, none, none, none, rfl, rfl, rfl, s0, upd_same, .nil⟩, ?_⟩
  rintro m σ H1 ⟨done, rest, cs, v3, v4, v5, v6, v7, v8, rfl, rfl, rfl, s1, ho1, hcs⟩
  have hlen : ((put (done ++ rest)).map V.int).length = (put done).length + (put rest).length := by rw [List.length_map, put_app, List.length_append]
  have hS1 := s1.seq ha
  refine ⟨_, rfl, _, rfl, a, _, rfl, .inl hS1, ?_⟩
  rw [hlen]
  refine ⟨_, _, rfl, rfl, _, rfl, ?_⟩
  cases rest with
  | nil =>
    refine if_false_of (decide_eq_false (by show ¬ _ < (((put done).length + 0 : Nat) : Int); omega)) ?_
    rw [List.append_nil] at kk
    exact ⟨_, rfl, kk _ o cs s1 ho ho1 (paired_mono (fun _ _ q => q.mono del_le) hcs)⟩
  | cons c rest =>
    obtain ⟨⟨p, ar, rows, ec, hsh⟩, hcl⟩ := hok c (List.mem_append_right _ List.mem_cons_self)
    subst ec
    obtain ⟨mm, rfl, hm14, hNm, hLm⟩ := shape_known hsh
    have hrl : rows.length ≤ 10 := by simp at hcl; omega
    generalize hn0 : (put done).length = n0 at hlen ⊢
    have ePut : put (done ++ (((mm : Int) :: ar) :: rows) :: rest) = put done ++ ((mm : Int) :: (ar ++ (putRows rows ++ put rest))) := by
      rw [put_app]
      show put done ++ ((((mm : Int) :: ar) ++ putRows rows) ++ put rest) = _
      rw [List.append_assoc]; rfl
    have hX : (put (done ++ (((mm : Int) :: ar) :: rows) :: rest)).map V.int = (put done).map V.int ++ (V.int (mm : Int) :: (ar.map V.int ++ ((putRows rows ++ put rest).map V.int))) := by
      rw [ePut, List.map_append, List.map_cons, List.map_append]
    have hX2 : (put (done ++ (((mm : Int) :: ar) :: rows) :: rest)).map V.int = ((put done).map V.int ++ [V.int (mm : Int)]) ++ (ar.map V.int ++ ((putRows rows ++ put rest).map V.int)) := by
      rw [hX, List.append_assoc]; rfl
    have hX3 : ∀ (i : Nat) (r : List Int), rows[i]? = some r → (put (done ++ (((mm : Int) :: ar) :: rows) :: rest)).map V.int = ((put done).map V.int ++ [V.int (mm : Int)] ++ ar.map V.int ++ (putRows (rows.take i)).map V.int) ++ (V.int (r.length : Int) :: (r.map V.int ++ ((putRows (rows.drop (i + 1)) ++ put rest).map V.int))) := by
      intro i r hr
      have e : rows = rows.take i ++ r :: rows.drop (i + 1) := by
        obtain ⟨hi, er⟩ := List.getElem?_eq_some_iff.mp hr
        rw [← er, List.getElem_cons_drop, List.take_append_drop]
      have e2 : putRows rows = putRows (rows.take i) ++ ((r.length : Int) :: (r ++ putRows (rows.drop (i + 1)))) := by
        conv => lhs; rw [e]
        rw [rows_app]
        show putRows (rows.take i) ++ (((r.length : Int) :: r) ++ putRows (rows.drop (i + 1))) = _
        rfl
      rw [hX2, e2]
      simp only [List.map_append, List.map_cons, List.append_assoc, List.cons_append]
    have lput : (put (done ++ (((mm : Int) :: ar) :: rows) :: rest)).length = n0 + (put ((((mm : Int) :: ar) :: rows) :: rest)).length := by rw [put_app, List.length_append, hn0]
    have lpos : 0 < (put ((((mm : Int) :: ar) :: rows) :: rest)).length := by
      show 0 < (((((mm : Int) :: ar)) ++ putRows rows) ++ put rest).length
      simp
    refine if_true_of (decide_eq_true (by omega)) ⟨_, fun σ' H' h => h, ?_⟩
    refine ⟨_, rfl, _, rfl, a, _, _, _, rfl, rfl, hS1, atI_nat (j := n0) (get_at hX (by rw [List.length_map, hn0])), ?_⟩
    refine ⟨_, rfl, _, _, rfl, rfl, _, rfl, _, _, _, _, rfl, rfl, T.t_NUMBERS _, atI_nat (j := mm) hNm, _, _, rfl, rfl, ?_⟩
    refine ⟨_, rfl, _, rfl, _, _, rfl, rfl, _, rfl, _, rfl, _, rfl, a, _, rfl, hS1, fun d hd => ?_⟩
    rw [show cutV ((put (done ++ (((mm : Int) :: ar) :: rows) :: rest)).map V.int) (some ((n0 : Int) + 1)) (some ((n0 : Int) + 1 + (ar.length : Int))) = ar.map V.int from
      cut_at (i := n0 + 1) (j := n0 + 1 + ar.length) hX2 (by rw [List.length_append, List.length_map, hn0]; rfl) (by rw [List.length_append, List.length_map, hn0, List.length_map]; rfl)]
    have s2 : Same H1 (upd H1 d (.lst (ar.map V.int))) := same_new hd
    have hd2 : upd H1 d (.lst (ar.map V.int)) d = some (.lst (ar.map V.int)) := upd_same
    have ndo : d ≠ o := ne_some_none ho1 hd
    generalize upd H1 d (.lst (ar.map V.int)) = H2 at s2 hd2 ⊢
    have t2 := s1.trans s2
    refine ⟨small' (by decide), fun lb hlb => ?_⟩
    have s3 : Same H2 (upd H2 lb (.lst [])) := same_new hlb
    have nlo : lb ≠ o := ne_some_none (s2 _ _ ho1) hlb
    have nld : lb ≠ d := ne_some_none hd2 hlb
    refine ⟨_, rfl, _, _, _, _, rfl, rfl, T.t_LISTS _, atI_nat (j := mm) hLm, _, rfl, by omega, by omega, ?_⟩
    rw [Int.toNat_natCast]
    refine for_it walk_range (fun i σ H' => ∃ (bs : List Addr) (v7 v8 : Option V), σ = [some (.ref a), some (.ref o), some (.int (n0 : Int)), some (.int (mm : Int)), some (.int ((n0 + 1 + ar.length + (putRows (rows.take i)).length : Nat) : Int)), some (.ref d), some (.ref lb), v7, v8] ∧ Same H2 H' ∧ H' lb = some (.lst (bs.map V.ref)) ∧ Paired (fun b l => upd H2 lb (.lst []) b = none ∧ H' b = some (.lst (l.map V.int))) bs (rows.take i))
      ⟨[], v7, v8, rfl, s3, upd_same, .nil⟩ (fun _ _ _ _ _ => trivial) ?_ ?_
    · rintro i x σ H3 H4 hi ⟨bs, v7', v8', rfl, s4, hlb4, hbs⟩ ⟨rfl, rfl⟩
      obtain ⟨r, hr'⟩ : ∃ r, rows[i]? = some r := ⟨_, List.getElem?_eq_getElem hi⟩
      have hX4 := hX3 i r hr'
      have hpl : ((put done).map V.int ++ [V.int (mm : Int)] ++ ar.map V.int ++ (putRows (rows.take i)).map V.int).length = n0 + 1 + ar.length + (putRows (rows.take i)).length := by
        simp only [List.length_append, List.length_map, hn0]; rfl
      have hS4 := s4.seq (t2.seq ha)
      generalize hme : n0 + 1 + ar.length + (putRows (rows.take i)).length = me at hpl ⊢
      have hX5 : (put (done ++ (((mm : Int) :: ar) :: rows) :: rest)).map V.int = (((put done).map V.int ++ [V.int (mm : Int)] ++ ar.map V.int ++ (putRows (rows.take i)).map V.int) ++ [V.int (r.length : Int)]) ++ (r.map V.int ++ ((putRows (rows.drop (i + 1)) ++ put rest).map V.int)) := by
        rw [hX4]
        simp only [List.append_assoc, List.cons_append, List.nil_append]
      refine ⟨_, rfl, _, _, rfl, rfl, _, rfl, _, rfl, a, _, _, _, rfl, rfl, hS4, atI_nat (j := me) (get_at hX4 hpl.symm), _, _, rfl, rfl, ?_⟩
      refine ⟨_, rfl, .inl ⟨rfl, _, SqL.of hlb4⟩, _, rfl, _, rfl, _, _, rfl, rfl, _, rfl, _, rfl, _, rfl, a, _, rfl, hS4, fun b hb => ?_⟩
      rw [show cutV ((put (done ++ (((mm : Int) :: ar) :: rows) :: rest)).map V.int) (some ((me : Int) + 1)) (some ((me : Int) + 1 + (r.length : Int))) = r.map V.int from
        cut_at (i := me + 1) (j := me + 1 + r.length) hX5 (by rw [List.length_append, hpl]; rfl) (by rw [List.length_append, hpl, List.length_map]; rfl)]
      have eb := paired_len hbs
      have ebl : bs.length ≤ 10 := by rw [eb, List.length_take]; omega
      refine ⟨lb, _, _, rfl, rfl, put_at hb hlb4, small (by rw [List.length_map]; omega), ?_⟩
      have nbl : b ≠ lb := ne_some_none hlb4 hb
      have s5 : Same H4 (upd H4 b (.lst (r.map V.int))) := same_new hb
      have hbH2 : upd H2 lb (.lst []) b = none := by rw [upd_ne nbl]; exact s4.free hb
      refine ⟨_, rfl, bs ++ [b], some (.int (0 + (i : Int))), some (.int ((me : Int) + 1 + (r.length : Int))), ?_, same_put (s4.trans s5) hlb, ?_, ?_⟩
      · have eP : (putRows (rows.take (i + 1))).length = (putRows (rows.take i)).length + 1 + r.length := by
          rw [take_more hr', rows_app]
          show (_ ++ (((r.length : Int) :: r) ++ [])).length = _
          rw [List.length_append, List.append_nil, List.length_cons]; omega
        rw [eP, show n0 + 1 + ar.length + ((putRows (rows.take i)).length + 1 + r.length) = me + 1 + r.length by omega]
        rfl
      · rw [upd_same, List.map_append]; rfl
      · rw [take_more hr']
        refine paired_snoc ⟨hbH2, ?_⟩ (paired_mono (fun c l q => ⟨q.1, ?_⟩) hbs)
        · rw [upd_ne nbl]; exact upd_same
        · have : c ≠ lb := fun e => by rw [e, upd_same] at q; exact absurd q.1 (by simp)
          rw [upd_ne this]; exact s5 _ _ q.2
    · rintro σ H3 ⟨bs, v7', v8', rfl, s4, hlb4, hbs⟩
      rw [List.take_of_length_le (Nat.le_refl _)] at hbs ⊢
      have ho3 := s4 _ _ (s2 _ _ ho1)
      have hd3 := s4 _ _ hd2
      have ecs := paired_len hcs
      refine ⟨_, rfl, .inl ⟨rfl, _, SqL.of ho3⟩, _, rfl, _, rfl, _, rfl, small' (by show 3 ≤ 16000000; decide), fun t ht => ⟨o, _, _, rfl, rfl, put_at ht ho3, small (by rw [List.length_map, ecs]; rw [List.length_append] at h150; omega), ?_⟩⟩
      have nto : t ≠ o := ne_some_none ho3 ht
      have s5 : Same H3 (upd H3 t (.tup [.int (mm : Int), .ref d, .ref lb])) := same_new ht
      have t5 := t2.trans (s4.trans s5)
      have sD : Same (del (Off H H3) o) (del (Off H (upd (upd H3 t (.tup [.int (mm : Int), .ref d, .ref lb])) o (.lst (cs.map V.ref ++ [.ref t])))) o) := (same_del2 (off_up s5)).trans off_del_upd
      have at3 : ∀ {c : Addr} {u : HO}, c ≠ o → H c = none → H3 c = some u → del (Off H (upd (upd H3 t (.tup [.int (mm : Int), .ref d, .ref lb])) o (.lst (cs.map V.ref ++ [.ref t])))) o c = some u := fun {c u} hc h0 h => sD _ _ (by rw [del_ne hc]; exact off_at h0 h)
      refine ⟨_, rfl, rest.length, Nat.lt_succ_self _, done ++ [((mm : Int) :: ar) :: rows], rest, cs ++ [t], some (.int (mm : Int)), some (.int ((n0 + 1 + ar.length + (putRows rows).length : Nat) : Int)), some (.ref d), some (.ref lb), v7', v8', rfl, by rw [List.append_assoc]; rfl, ?_, same_put t5 ho, ?_, ?_⟩
      · have eP : (put (done ++ [((mm : Int) :: ar) :: rows])).length = n0 + 1 + ar.length + (putRows rows).length := by
          rw [put_snoc, List.length_append, hn0]
          show n0 + (((mm : Int) :: ar) ++ putRows rows).length = _
          rw [List.length_append, List.length_cons]; omega
        rw [eP]
        rfl
      · rw [upd_same, List.map_append]; rfl
      · refine paired_snoc ?_ (paired_mono (fun _ _ q => q.mono (((same_del2 (off_up s2)).trans (same_del2 (off_up s4))).trans sD)) hcs)
        refine ⟨_, ar, rows, d, lb, bs, rfl, ?_, at3 ndo (s1.free hd) hd3, at3 nlo (t2.free hlb) hlb4, paired_mono (fun c l q => at3 (fun e => ?_) (t2.free (s3.free q.1)) q.2) hbs⟩
        · rw [del_ne nto]
          exact off_at ((t2.trans s4).free ht) (by rw [upd_ne nto]; exact upd_same)
        · rw [e, upd_ne (Ne.symm nlo), s2 _ _ ho1] at q
          exact absurd q.1 (by simp)
end
end Kn
namespace Kn
open PySem PySem.Spec PyProof.Rows L2
open Vbktaa (State)
open PyFlat (put put1 putRow putRows okCall told played)
def isKnit (n : Nat) : Bool := [2, 3, 4, 5, 6, 11].contains n
theorem knit_in {n : Nat} (h : n < 14) : inV (V.int (n : Int)) [.int (2), .int (3), .int (4), .int (5), .int (6), .int (11)] = isKnit n := by
  have : ∀ n : Nat, n < 14 → inV (V.int (n : Int)) [.int (2), .int (3), .int (4), .int (5), .int (6), .int (11)] = isKnit n := by decide
  exact this n h
def doneI (s : State) (n : Nat) (i : Int) (t : List Nat) (l : List Int) : List Int :=
  if isKnit n = true then ofSizeI s n i l else if n = 7 then formToldI s t else if n = 8 then valueToldI s t l else if n = 9 then foundI s t else if n = 12 then triedI t l else ofPatternI s n
/-- what is handed in with a call -/
structure CallOk (n : Nat) (L : List (List Int)) (t : List Nat) (l : List Int) : Prop where
  size : isKnit n = true → L[0]? = some l
  word : n = 0 ∨ n = 7 ∨ n = 8 ∨ n = 9 ∨ n = 12 → L[0]? = some (intsN t) ∧ t.length ≤ 2400
  size2 : n = 8 ∨ n = 12 → L[1]? = some l
def ListsAt (H : Hp) (lb : Addr) (L : List (List Int)) : Prop := ∃ bs : List Addr, H lb = some (.lst (bs.map V.ref)) ∧ Paired (fun b l => H b = some (.lst (l.map V.int))) bs L
theorem ListsAt.mono {H H' : Hp} {lb : Addr} {L : List (List Int)} (h : ListsAt H lb L) (s : Same H H') : ListsAt H' lb L := by
  obtain ⟨bs, h1, h2⟩ := h
  exact ⟨bs, s _ _ h1, paired_mono (fun _ _ r => s _ _ r) h2⟩
theorem paired_back {α β : Type} {F : α → β → Prop} : ∀ {l : List α} {m : List β} {i : Nat} {y : β}, Paired F l m → m[i]? = some y → ∃ x, l[i]? = some x ∧ F x y
  | _, _, 0, y, .cons r t, h => ⟨_, rfl, by cases h; exact r⟩
  | _, _, i + 1, y, .cons r t, h => paired_back (i := i) t h
  | _, _, _, _, .nil, h => by cases h
theorem ListsAt.get {H : Hp} {lb : Addr} {L : List (List Int)} {i : Nat} {l : List Int} (h : ListsAt H lb L) (e : L[i]? = some l) : ∃ (us : List V) (b : Addr), H lb = some (.lst us) ∧ us[i]? = some (.ref b) ∧ H b = some (.lst (l.map V.int)) := by
  obtain ⟨bs, h1, h2⟩ := h
  obtain ⟨b, hb, hB⟩ := paired_back h2 e
  exact ⟨_, b, h1, by rw [List.getElem?_map, hb]; rfl, hB⟩
section
variable {P : Program} {w : World} {K : PySem.W.Frag} {mg : Str → Option Value} {base : Heap}
/-! ### done -/
def spDone (K : PySem.W.Frag) : Sp := fun vs H Q _ => ∃ (v : V) (nb lb : Addr) (n : Nat) (i : Int) (us : List V) (s : State) (L : List (List Int)) (t : List Nat) (l : List Int), vs = [v, .int (n : Int), .ref nb, .ref lb] ∧ Held K H v s ∧ SqL K H nb us ∧ (n = 3 → us[0]? = some (.int i)) ∧ n < 14 ∧ ListsAt H lb L ∧ CallOk n L t l ∧ NewI H (doneI s n i t l) Q
theorem sc_done : FnScope ["pattern", "number", "numbers", "lists"] ["pattern", "number", "numbers", "lists"] (defScope s_done) := ⟨rfl, rfl, rfl, by decide +kernel, rfl, by decide +kernel, by decide +kernel⟩
theorem ok_done (T : Txt K mg) (D : Def K mg "done" s_done) (c_of_size : Cal P w K mg base (L2.CX P w) 20 "of_size" ["pattern", "number", "numbers", "size"] (spOfSize K)) (c_form_told : Cal P w K mg base CX0 5 "form_told" ["pattern", "word"] (spFormTold K))
    (c_value_told : Cal P w K mg base CX0 5 "value_told" ["pattern", "word", "size"] (spValueTold K)) (c_found : Cal P w K mg base CX0 1 "found" ["pattern", "word"] (spFound K)) (c_tried : Cal P w K mg base (L2.CX P w) 21 "tried" ["text", "size"] (spTried K)) (c_of_pattern : Cal P w K mg base CX0 14 "of_pattern" ["pattern", "number"] (spOfPattern K)) :
    Cal P w K mg base (L2.CX P w) 22 "done" ["pattern", "number", "numbers", "lists"] (spDone K) := by
  have sc := sc_done
  refine Cal.mk' D sc (fun _ _ _ _ _ _ us hl => match us, hl with | [_, _, _, _], _ => rfl) (fun vs H Q E h => ?_) (fun f cdv A outer s H vs Q E hr h => ?_)
  · obtain ⟨_, _, _, _, _, _, _, _, _, _, rfl, _⟩ := h; rfl
  obtain ⟨v, nb, lb, n, i, us, st, L, t, l, rfl, hH, hnb, hi3, h14, hL, hC, kk⟩ := h
  refine ⟨_, (pss_cons (ps_if (pt_cmpR op_in_seq (pv 1) (pe_gr T.g_KNIT) (by rfl)) (pss_one (ps_ret (pe_f c_of_size hr passR (pa_cons (pv 0) (pa_cons (pv 1) (pa_cons (pv 2) (pa_cons (pe_ix ix_list (pv 3) pe_int (fun _ _ => rfl)) pa_nil))))))) pss_nil)
  (pss_cons (ps_if (pt_cmpR op_eq (pv 1) pe_int (nomark _)) (pss_one (ps_ret (pe_f c_form_told hr pass0 (pa_cons (pv 0) (pa_cons (pe_ix ix_list (pv 3) pe_int (fun _ _ => rfl)) pa_nil))))) pss_nil)
  (pss_cons (ps_if (pt_cmpR op_eq (pv 1) pe_int (nomark _)) (pss_one (ps_ret (pe_f c_value_told hr pass0 (pa_cons (pv 0) (pa_cons (pe_ix ix_list (pv 3) pe_int (fun _ _ => rfl)) (pa_cons (pe_ix ix_list (pv 3) pe_int (fun _ _ => rfl)) pa_nil)))))) pss_nil)
  (pss_cons (ps_if (pt_cmpR op_eq (pv 1) pe_int (nomark _)) (pss_one (ps_ret (pe_f c_found hr pass0 (pa_cons (pv 0) (pa_cons (pe_ix ix_list (pv 3) pe_int (fun _ _ => rfl)) pa_nil))))) pss_nil)
  (pss_cons (ps_if (pt_cmpR op_eq (pv 1) pe_int (nomark _)) (pss_one (ps_ret (pe_f c_tried hr passR (pa_cons (pe_ix ix_list (pv 3) pe_int (fun _ _ => rfl)) (pa_cons (pe_ix ix_list (pv 3) pe_int (fun _ _ => rfl)) pa_nil))))) pss_nil)
  (pss_one (ps_ret (pe_f c_of_pattern hr pass0 (pa_cons (pv 0) (pa_cons (pv 1) pa_nil)))))))))), ?_⟩
  have ne : ∀ k : Nat, n ≠ k → decide (V.int (n : Int) = V.int (k : Int)) = false := fun k c => decide_eq_false (fun e => c (by have := V.int.inj e; omega))
  unfold doneI at kk
  refine ⟨_, rfl, _, _, rfl, .inr (T.t_KNIT _), rfl, rfl, _, rfl, ?_⟩
  cases ck : isKnit n with
  | true =>
    rw [if_pos ck] at kk
    obtain ⟨ys, b, g1, g2, g3⟩ := hL.get (hC.size ck)
    exact if_true_of ((knit_in h14).trans ck) ⟨_, rfl, _, rfl, _, rfl, _, rfl, lb, _, _, _, rfl, rfl, SqL.of g1, atI_nat (j := 0) g2, v, nb, b, n, i, us, st, l, rfl, hH, hnb, hi3, g3, kk⟩
  | false =>
    rw [if_neg (by rw [ck]; decide)] at kk
    refine if_false_of ((knit_in h14).trans ck) ⟨_, rfl, rfl, _, rfl, ?_⟩
    by_cases c7 : n = 7
    · rw [if_pos c7] at kk
      obtain ⟨e0, tl⟩ := hC.word (by omega)
      obtain ⟨ys, b, g1, g2, g3⟩ := hL.get e0
      rw [intsN_V] at g3
      exact if_true_of (decide_eq_true (by rw [c7]; rfl)) ⟨_, rfl, _, rfl, lb, _, _, _, rfl, rfl, SqL.of g1, atI_nat (j := 0) g2, v, b, st, t, rfl, hH, SqL.of g3, by omega, kk⟩
    rw [if_neg c7] at kk
    refine if_false_of (ne 7 c7) ⟨_, rfl, rfl, _, rfl, ?_⟩
    by_cases c8 : n = 8
    · rw [if_pos c8] at kk
      obtain ⟨e0, tl⟩ := hC.word (by omega)
      obtain ⟨ys, b, g1, g2, g3⟩ := hL.get e0
      rw [intsN_V] at g3
      obtain ⟨ys', b2, g1', g2', g3'⟩ := hL.get (hC.size2 (by omega))
      exact if_true_of (decide_eq_true (by rw [c8]; rfl)) ⟨_, rfl, _, rfl, lb, _, _, _, rfl, rfl, SqL.of g1, atI_nat (j := 0) g2, _, rfl, lb, _, _, _, rfl, rfl, SqL.of g1', atI_nat (j := 1) g2', v, b, b2, st, t, l, rfl, hH, SqL.of g3, by omega, SqL.of g3', kk⟩
    rw [if_neg c8] at kk
    refine if_false_of (ne 8 c8) ⟨_, rfl, rfl, _, rfl, ?_⟩
    by_cases c9 : n = 9
    · rw [if_pos c9] at kk
      obtain ⟨e0, tl⟩ := hC.word (by omega)
      obtain ⟨ys, b, g1, g2, g3⟩ := hL.get e0
      rw [intsN_V] at g3
      exact if_true_of (decide_eq_true (by rw [c9]; rfl)) ⟨_, rfl, _, rfl, lb, _, _, _, rfl, rfl, SqL.of g1, atI_nat (j := 0) g2, v, b, st, t, rfl, hH, SqL.of g3, kk⟩
    rw [if_neg c9] at kk
    refine if_false_of (ne 9 c9) ⟨_, rfl, rfl, _, rfl, ?_⟩
    by_cases c12 : n = 12
    · rw [if_pos c12] at kk
      obtain ⟨e0, tl⟩ := hC.word (by omega)
      obtain ⟨ys, b, g1, g2, g3⟩ := hL.get e0
      rw [intsN_V] at g3
      obtain ⟨ys', b2, g1', g2', g3'⟩ := hL.get (hC.size2 (by omega))
      exact if_true_of (decide_eq_true (by rw [c12]; rfl)) ⟨_, rfl, lb, _, _, _, rfl, rfl, SqL.of g1, atI_nat (j := 0) g2, _, rfl, lb, _, _, _, rfl, rfl, SqL.of g1', atI_nat (j := 1) g2', b, b2, t, l, rfl, SqL.of g3, tl, g3', kk⟩
    rw [if_neg c12] at kk
    exact if_false_of (ne 12 c12) ⟨_, rfl, _, rfl, v, n, st, rfl, hH, kk⟩
/-! ### answers -/
def tOf (rows : List (List Int)) : List Nat := (rows.headD []).map Int.toNat
def lOf (n : Nat) (rows : List (List Int)) : List Int := if isKnit n = true then rows.headD [] else rows.getD 1 []
def stepI (s : State) (c : List (List Int)) : State × List Int := match c with
  | (p :: a) :: rows => if p = 0 then putI s (tOf rows) else (s, doneI s p.toNat (a.headD 0) (tOf rows) (lOf p.toNat rows))
  | _ => (s, [])
/-- a call that may be asked -/
structure CallG (c : List (List Int)) : Prop where
  ok : okCall PyVbktaa.shape c
  few : c.length ≤ 10
  ar : ∀ p a rows, c = (p :: a) :: rows → (p = 3 → ∃ i, a = [i]) ∧ CallOk p.toNat rows (tOf rows) (lOf p.toNat rows)
def spAnswers (K : PySem.W.Frag) : Sp := fun vs H Q _ => ∃ (a : Addr) (raw : List (List (List Int))), vs = [.ref a] ∧ SqL K H a ((put raw).map V.int) ∧ raw.length ≤ 1000 ∧ (∀ c ∈ raw, CallG c) ∧ (told (played stepI {} raw)).length ≤ 10000000 ∧ NewI H (told (played stepI {} raw)) Q
theorem told_snoc (l : List (List Int)) (x : List Int) : told (l ++ [x]) = told l ++ ((x.length : Int) :: x) := by
  unfold told
  rw [flatMap_snoc]
theorem told_app (l m : List (List Int)) : told (l ++ m) = told l ++ told m := by
  unfold told
  rw [List.flatMap_append]
def stateI (s : State) : List (List (List Int)) → State
  | [] => s
  | c :: r => stateI (stepI s c).1 r
theorem stateI_snoc (c : List (List Int)) : ∀ (l : List (List (List Int))) (s : State), stateI s (l ++ [c]) = (stepI (stateI s l) c).1
  | [], s => rfl
  | d :: l, s => stateI_snoc c l (stepI s d).1
theorem played_snoc (c : List (List Int)) : ∀ (l : List (List (List Int))) (s : State), played stepI s (l ++ [c]) = played stepI s l ++ [(stepI (stateI s l) c).2]
  | [], s => rfl
  | d :: l, s => by
    show (stepI s d).2 :: played stepI (stepI s d).1 (l ++ [c]) = (stepI s d).2 :: (played stepI (stepI s d).1 l ++ _)
    rw [played_snoc c l (stepI s d).1]; rfl
theorem played_app (m : List (List (List Int))) : ∀ (l : List (List (List Int))) (s : State), played stepI s (l ++ m) = played stepI s l ++ played stepI (stateI s l) m
  | [], s => rfl
  | d :: l, s => by
    show (stepI s d).2 :: played stepI (stepI s d).1 (l ++ m) = (stepI s d).2 :: (played stepI (stepI s d).1 l ++ _)
    rw [played_app m l (stepI s d).1]; rfl
theorem told_prefix (raw : List (List (List Int))) (i : Nat) : (told (played stepI {} (raw.take i))).length ≤ (told (played stepI {} raw)).length := by
  have e : raw = raw.take i ++ raw.drop i := (List.take_append_drop i raw).symm
  have : (told (played stepI {} raw)) = told (played stepI {} (raw.take i)) ++ told (played stepI (stateI {} (raw.take i)) (raw.drop i)) := by
    conv => lhs; rw [e]
    rw [played_app, told_app]
  rw [this, List.length_append]; omega
theorem sc_answers : FnScope ["calls", "pattern", "told", "number", "numbers", "lists", "answer"] ["calls"] (defScope s_answers) := ⟨rfl, rfl, rfl, by decide +kernel, rfl, by decide +kernel, by decide +kernel⟩
end
end Kn
namespace Kn
open PySem PySem.Spec PyProof.Rows L2
open Vbktaa (State Item Items Part Parts)
open PyFlat (put put1 putRow putRows okCall told played)
/-! ### what is locked is no part of a pattern -/
def Sol : HO → Prop
  | .lst _ => True
  | .tup _ => True
  | .ins _ _ _ => True
  | _ => False
def SameS (H H' : Hp) : Prop := ∀ a u, Sol u → H a = some u → H' a = some u
mutual
theorem ItemAt.thin {H H' : Hp} (s : SameS H H') : ∀ {i : Item} {v : V}, ItemAt H i v → ItemAt H' i v
  | .st _ _, _, ⟨p, b, e, h1, h2⟩ => ⟨p, b, e, s _ _ trivial h1, s _ _ trivial h2⟩
  | .group _ _, _, ⟨p, q, b, vs, e, h1, h2, h3, h4⟩ => ⟨p, q, b, vs, e, s _ _ trivial h1, s _ _ trivial h2, ItemsAt.thin s h3, s _ _ trivial h4⟩
  | .fill _ _, _, ⟨p, q, b, vs, e, h1, h2, h3, h4⟩ => ⟨p, q, b, vs, e, s _ _ trivial h1, s _ _ trivial h2, ItemsAt.thin s h3, s _ _ trivial h4⟩
theorem ItemsAt.thin {H H' : Hp} (s : SameS H H') : ∀ {l : Items} {vs : List V}, ItemsAt H l vs → ItemsAt H' l vs
  | .nil, _, h => h
  | .cons _ _, _, ⟨v, us, e, h1, h2⟩ => ⟨v, us, e, ItemAt.thin s h1, ItemsAt.thin s h2⟩
end
mutual
theorem PartAt.thin {H H' : Hp} (s : SameS H H') : ∀ {i : Part} {v : V}, PartAt H i v → PartAt H' i v
  | .row _ _ _, _, ⟨t, e1, e2, e, h1⟩ => ⟨t, e1, e2, e, s _ _ trivial h1⟩
  | .again _ _, _, ⟨t, q, b, us, e, h1, h2, h3, h4⟩ => ⟨t, q, b, us, e, s _ _ trivial h1, s _ _ trivial h2, PartsAt.thin s h3, s _ _ trivial h4⟩
theorem PartsAt.thin {H H' : Hp} (s : SameS H H') : ∀ {l : Parts} {vs : List V}, PartsAt H l vs → PartsAt H' l vs
  | .nil, _, h => h
  | .cons _ _, _, ⟨v, us, e, h1, h2⟩ => ⟨v, us, e, PartAt.thin s h1, PartsAt.thin s h2⟩
end
theorem RowAt.thin {F G : Hp} {a : Addr} {x : List Nat × Items} (s : SameS F G) (h : RowAt F a x) : RowAt G a x := by
  obtain ⟨n, q, us, h1, h2, h3, h4⟩ := h
  exact ⟨n, q, us, s _ _ trivial h1, s _ _ trivial h2, s _ _ trivial h3, h4.thin s⟩
theorem PatAt.thin {K : PySem.W.Frag} {H H' : Hp} {p : Addr} {q : Vbktaa.Pattern} {rows : List (List Nat × Items)} (s : SameS H H') (h : PatAt K H p q rows) : PatAt K H' p q rows := by
  obtain ⟨dx, la, ca, ra, pa, as, rs, us, h1, h2, h3, h4, h5, h6, h7, h8⟩ := h.ex
  exact ⟨dx, la, ca, ra, pa, as, rs, us, s _ _ trivial h1, s _ _ trivial h2, paired_mono (fun a z r => s a (.tup [.int (sgn z : Int), .int (z.lo : Int), .int (z.step : Int), .int (hiI z)]) trivial r) h3, s _ _ trivial h4, s _ _ trivial h5, paired_mono (fun _ _ r => r.thin s) h6, s _ _ trivial h7, h8.thin s⟩
theorem Held.thin {K : PySem.W.Frag} {H H' : Hp} {v : V} {s : State} (e : SameS H H') (h : Held K H v s) : Held K H' v s := by
  rcases h with h | ⟨p, h1, h2, rows, h3, h4, h5⟩
  · exact .inl h
  · exact .inr ⟨p, h1, h2, rows, ⟨⟨h3.at_.thin e, h3.sizes, h3.two, h3.rowg⟩, h3.parts, h3.few, h3.cast⟩, h4, h5⟩
theorem frz_thin {H : Hp} {o : Addr} {od : Obj} {u : HO} (h : H o = some (.frz od u)) : SameS H (del H o) := fun a w hs hw => by
  by_cases e : a = o
  · rw [e, h] at hw
    cases hw
    exact absurd hs id
  · rw [del_ne e]; exact hw
section
variable {P : Program} {w : World} {K : PySem.W.Frag} {mg : Str → Option Value} {base : Heap}
theorem ok_answers {f : Addr} {fd : FuncData} (T : Txt K mg) (F : FnP K "answers" "answers" s_answers f fd) (c_calls_of : Cal P w K mg base CX0 1 "calls_of" ["calls"] (spCalls K)) (c_put : Cal P w K mg base (L2.CX P w) 21 "put" ["pattern", "text"] (spPut K)) (c_done : Cal P w K mg base (L2.CX P w) 22 "done" ["pattern", "number", "numbers", "lists"] (spDone K)) :
    FnOk P w K mg base (L2.CX P w) 23 f fd ["calls"] (spAnswers K) := by
  have sc := sc_answers
  refine FunD.ok F sc (fun vs H Q E h => ?_) (fun cdv A outer s H vs Q E hr h => ?_)
  · obtain ⟨_, _, rfl, _⟩ := h; rfl
  obtain ⟨a, raw, rfl, ha, h150, hok, hbig, kk⟩ := h
  refine ⟨_, (pss_cons (ps_set (i := 1) sc.nd rfl (Or.inl rfl) pe_non)
  (pss_cons (ps_set (i := 2) sc.nd rfl (Or.inl rfl) (pe_lst pa_nil))
  (pss_cons (ps_for (passes_of rfl) rfl (pi_list (pe_f c_calls_of hr pass0 (pa_cons (pv 0) pa_nil))) (pg_tup rfl (pgs_cons (pg_name (i := 3) sc.nd rfl (Or.inl rfl)) (pgs_cons (pg_name (i := 4) sc.nd rfl (Or.inl rfl)) (pgs_cons (pg_name (i := 5) sc.nd rfl (Or.inl rfl)) pgs_nil)))) (pss_cons (ps_lock (ps_if (pt_cmpR op_eq (pv 3) pe_int (nomark _)) (pss_one (ps_asg (pe_f c_put hr passR (pa_cons (pv 1) (pa_cons (pe_ix ix_list (pv 5) pe_int (fun _ _ => rfl)) pa_nil))) (pg_tup rfl (pgs_cons (pg_name (i := 1) sc.nd rfl (Or.inl rfl)) (pgs_cons (pg_name (i := 6) sc.nd rfl (Or.inl rfl)) pgs_nil))))) (pss_one (ps_set (i := 6) sc.nd rfl (Or.inl rfl) (pe_f c_done hr passR (pa_cons (pv 1) (pa_cons (pv 3) (pa_cons (pv 4) (pa_cons (pv 5) pa_nil)))))))))
    (pss_cons (ps_expr (pe_bm PySem.F.plainAttrs_list PySem.F.slot_list_append PySem.F.type_list_append mt_append (pv 2) (pa_cons (pe_callB call_len_seq (by rfl) T.f_len (by decide +kernel) (pa_cons (pv 6) pa_nil)) pa_nil)))
    (pss_one (ps_expr (pe_bm PySem.F.plainAttrs_list PySem.F.slot_list_extend PySem.F.type_list_extend mt_extend (pv 2) (pa_cons (pv 6) pa_nil)))))))
  (pss_one (ps_ret (pv 2)))))), ?_⟩
  refine ⟨small' (by decide), fun o ho => ?_⟩
  have s0 : Same H (upd H o (.lst [])) := same_new ho
  refine ⟨_, rfl, a, raw, rfl, s0.seq ha, h150, fun c hc => ⟨(hok c hc).ok, (hok c hc).few⟩, fun H1 p cs s1 hp hp1 hcs => ?_⟩
  have ho1 : H1 o = some (.lst []) := s1 _ _ upd_same
  have npo : p ≠ o := fun e => by rw [e, upd_same] at hp; cases hp
  have hlen := paired_len hcs
  refine ⟨p, rfl, ⟨_, SqL.of hp1⟩, for_it walk_list (fun i σ H' => ∃ (F : Hp) (v v3 v4 v5 v6 : Option V) (pv : V), σ = [some (.ref a), v, some (.ref o), v3, v4, v5, v6] ∧ v = some pv ∧ F o = none ∧ Same H F ∧ Same F H' ∧ Held K F pv (stateI {} (raw.take i)) ∧ H' o = some (.lst ((told (played stepI {} (raw.take i))).map V.int)) ∧ F p = some (.lst (cs.map V.ref)) ∧ Paired (CallAt F) cs raw)
    ⟨del H1 o, _, _, _, _, _, .non, rfl, rfl, del_same, ?_, del_le, .inl ⟨rfl, rfl, rfl, by show Vbktaa.allRows .nil = []; rw [Vbktaa.allRows]⟩, ho1, by rw [del_ne npo]; exact hp1, paired_mono (fun _ _ q => q.mono (fun b u h => ?_)) hcs⟩ (fun i σ H' _ ⟨_, _, _, _, _, _, _, _, _, _, _, s, _, _, q, _⟩ => SqL.of (s _ _ q)) ?_ ?_⟩
  · exact fun b u h => by
      rw [del_ne (ne_of_none h ho)]; exact s1 _ _ (s0 _ _ h)
  · obtain ⟨h1, h2⟩ := off_some h
    have : b ≠ o := fun e => by rw [e, upd_same] at h1; cases h1
    rw [del_ne this]; exact h2
  · rintro i x σ H3 H2 hi ⟨F, v, v3, v4, v5, v6, pv0, rfl, rfl, hFo, sF, sFH, hHeld, ho2, hFp, hFc⟩ ⟨rfl, hx⟩
    obtain ⟨t, ht, rfl⟩ := map_get hx
    obtain ⟨c, hc, pp, ar, rows, nb, lb, bs, ec, ht1, hnb, hlb, hbs⟩ := paired_get hFc ht
    have hG := hok c (List.mem_of_getElem? hc)
    subst ec
    obtain ⟨p', a', xs', e', hsh⟩ := hG.ok
    cases e'
    obtain ⟨mm, rfl, hm14, _, _⟩ := shape_known hsh
    obtain ⟨hi3, hC⟩ := hG.ar _ _ _ rfl
    rw [Int.toNat_natCast] at hC
    have eT : played stepI {} (raw.take (i + 1)) = played stepI {} (raw.take i) ++ [(stepI (stateI {} (raw.take i)) (((mm : Int) :: ar) :: rows)).2] := by rw [take_more hc, played_snoc]
    have eS : stateI {} (raw.take (i + 1)) = (stepI (stateI {} (raw.take i)) (((mm : Int) :: ar) :: rows)).1 := by rw [take_more hc, stateI_snoc]
    have hpre := told_prefix raw (i + 1)
    rw [eT, told_snoc, List.length_append, List.length_cons] at hpre
    rw [eT, eS, told_snoc]
    generalize stateI {} (raw.take i) = st at hHeld hpre ⊢
    generalize told (played stepI {} (raw.take i)) = tl at ho2 hpre ⊢
    refine ⟨t, _, rfl, SqT.of (sFH _ _ ht1), rfl, _, _, rfl, _, _, rfl, _, _, rfl, rfl, ?_⟩
    refine ⟨o, _, ho2, trivial, fun od => ?_⟩
    have sL : Same F (upd H2 o (.frz od (.lst (tl.map V.int)))) := fun b u h => by rw [upd_ne (ne_of_none h hFo)]; exact sFH _ _ h
    have hoL : upd H2 o (.frz od (.lst (tl.map V.int))) o = some (.frz od (.lst (tl.map V.int))) := upd_same
    generalize upd H2 o (.frz od (.lst (tl.map V.int))) = HL at sL hoL ⊢
    -- behind the answer
    have fin : ∀ (H4 : Hp) (lp : Addr) (pv' : V) (st' : State) (ans : List Int) (v3 v4 v5 v6 : Option V), Same HL H4 → H4 lp = some (.lst (ans.map V.int)) → Held K (del H4 o) pv' st' →
        ∃ (F : Hp) (v v3' v4' v5' v6' : Option V) (pv : V), [some (V.ref a), some pv', some (V.ref o), v3, v4, v5, v6] = [some (.ref a), v, some (.ref o), v3', v4', v5', v6'] ∧ v = some pv ∧ F o = none ∧ Same H F ∧ Same F (upd H4 o (.lst ((tl ++ ((ans.length : Int) :: ans)).map V.int))) ∧ Held K F pv st' ∧
          upd H4 o (.lst ((tl ++ ((ans.length : Int) :: ans)).map V.int)) o = some (.lst ((tl ++ ((ans.length : Int) :: ans)).map V.int)) ∧ F p = some (.lst (cs.map V.ref)) ∧ Paired (CallAt F) cs raw := by
      intro H4 lp pv' st' ans v3 v4 v5 v6 s4 hlp hh
      have sFF : Same F (del H4 o) := fun b u h => by rw [del_ne (ne_of_none h hFo)]; exact s4 _ _ (sL _ _ h)
      refine ⟨del H4 o, _, _, _, _, _, pv', rfl, rfl, del_same, sF.trans sFF, fun b u h => ?_, hh, upd_same, sFF _ _ hFp, paired_mono (fun _ _ q => q.mono sFF) hFc⟩
      have : b ≠ o := fun e => by rw [e, del_same] at h; cases h
      rw [del_ne this] at h
      rw [upd_ne this]; exact h
    refine ⟨_, rfl, rfl, _, rfl, ?_⟩
    by_cases c0 : mm = 0
    · refine if_true_of (decide_eq_true (by rw [c0]; rfl)) ?_
      obtain ⟨e0, tlen⟩ := hC.word (.inl c0)
      have hstep : stepI st (((mm : Int) :: ar) :: rows) = putI st (tOf rows) := by
        show (if (mm : Int) = 0 then _ else _) = _
        rw [if_pos (by rw [c0]; rfl)]
      rw [hstep] at hpre ⊢
      obtain ⟨ys, b, g1, g2, g3⟩ := (show ListsAt F lb rows from ⟨bs, hlb, hbs⟩).get e0
      rw [intsN_V] at g3
      refine ⟨_, rfl, _, rfl, lb, _, _, _, rfl, rfl, SqL.of (sL _ _ g1), atI_nat (j := 0) g2, pv0, b, st, tOf rows, rfl, hHeld.mono sL, SqL.of (sL _ _ g3), tlen, fun H4 tp lp v' s4 hlpn htp hlp hh => ?_⟩
      have ho4 := s4 _ _ hoL
      have nlo : lp ≠ o := fun e => by rw [e, ho4] at hlp; cases hlp
      refine ⟨tp, _, rfl, SqT.of htp, rfl, _, _, rfl, _, _, rfl, rfl, ho4, ?_⟩
      refine ⟨_, rfl, .inl ⟨rfl, _, SqL.of upd_same⟩, _, rfl, lp, _, rfl, .inl (SqL.of (by rw [upd_ne nlo]; exact hlp)), o, _, _, rfl, rfl, upd_same, small (by rw [List.length_map]; omega), ?_⟩
      refine ⟨_, rfl, .inl ⟨rfl, _, SqL.of upd_same⟩, _, rfl, o, lp, _, _, rfl, rfl, upd_same, by rw [upd_ne nlo, upd_ne nlo]; exact hlp, small' (by rw [List.length_append, List.length_map, List.length_singleton, List.length_map]; omega), ?_⟩
      rw [upd_upd, upd_upd, List.length_map, show (tl.map V.int ++ [V.int ((putI st (tOf rows)).2.length : Int)]) ++ (putI st (tOf rows)).2.map V.int = (tl ++ (((putI st (tOf rows)).2.length : Int) :: (putI st (tOf rows)).2)).map V.int by simp]
      exact fin H4 lp v' _ (putI st (tOf rows)).2 _ _ _ _ s4 hlp (hh.thin (frz_thin ho4))
    · refine if_false_of (decide_eq_false (fun e => c0 (by have := V.int.inj e; omega))) ?_
      have hstep : stepI st (((mm : Int) :: ar) :: rows) = (st, doneI st mm (ar.headD 0) (tOf rows) (lOf mm rows)) := by
        show (if (mm : Int) = 0 then _ else _) = _
        rw [if_neg (by omega), Int.toNat_natCast]
      rw [hstep] at hpre ⊢
      dsimp only at hpre
      refine ⟨_, rfl, _, rfl, _, rfl, _, rfl, pv0, nb, lb, mm, ar.headD 0, _, st, rows, tOf rows, lOf mm rows, rfl, hHeld.mono sL, SqL.of (sL _ _ hnb), ?_, hm14, (show ListsAt F lb rows from ⟨bs, hlb, hbs⟩).mono sL, hC, fun H4 lp s4 hlpn hlp => ?_⟩
      · intro h3
        obtain ⟨i, rfl⟩ := hi3 (by rw [h3]; rfl)
        rfl
      have ho4 := s4 _ _ hoL
      have nlo : lp ≠ o := fun e => by rw [e, ho4] at hlp; cases hlp
      refine ⟨ho4, ?_⟩
      refine ⟨_, rfl, .inl ⟨rfl, _, SqL.of upd_same⟩, _, rfl, lp, _, rfl, .inl (SqL.of (by rw [upd_ne nlo]; exact hlp)), o, _, _, rfl, rfl, upd_same, small (by rw [List.length_map]; omega), ?_⟩
      refine ⟨_, rfl, .inl ⟨rfl, _, SqL.of upd_same⟩, _, rfl, o, lp, _, _, rfl, rfl, upd_same, by rw [upd_ne nlo, upd_ne nlo]; exact hlp, small' (by rw [List.length_append, List.length_map, List.length_singleton, List.length_map]; omega), ?_⟩
      rw [upd_upd, upd_upd, List.length_map, show (tl.map V.int ++ [V.int ((doneI st mm (ar.headD 0) (tOf rows) (lOf mm rows)).length : Int)]) ++ (doneI st mm (ar.headD 0) (tOf rows) (lOf mm rows)).map V.int = (tl ++ (((doneI st mm (ar.headD 0) (tOf rows) (lOf mm rows)).length : Int) :: (doneI st mm (ar.headD 0) (tOf rows) (lOf mm rows)))).map V.int by simp]
      exact fin H4 lp pv0 _ (doneI st mm (ar.headD 0) (tOf rows) (lOf mm rows)) _ _ _ _ s4 hlp ((hHeld.mono (sL.trans s4)).thin (frz_thin ho4))
  · rintro σ H2 ⟨F, v, v3, v4, v5, v6, pv0, rfl, rfl, hFo, sF, sFH, hHeld, ho2, hFp, hFc⟩
    rw [List.length_map, hlen, take_all] at ho2
    exact ⟨_, rfl, kk _ o (sF.trans sFH) ho ho2⟩
end
end Kn
namespace Kn
open Vbktaa
open PyFlat (put put1 putRow putRows okCall told played)
/-! ### the calls answer as the specification says -/
/-- the loops behind the last row -/
structure PieceW (v : List Int) (f : Nat) : Prop where
  part : ∀ (p : Part) (x y : Piece) (c0 : Nat), (wids c0 x.rows.reverse).getLast? = some x.width → knitPart v f p x = .ok y → (wids c0 y.rows.reverse).getLast? = some y.width
  times : ∀ (l : Parts) (k : Nat) (x y : Piece) (c0 : Nat), (wids c0 x.rows.reverse).getLast? = some x.width → knitTimes v f l k x = .ok y → (wids c0 y.rows.reverse).getLast? = some y.width
  parts : ∀ (l : Parts) (x y : Piece) (c0 : Nat), (wids c0 x.rows.reverse).getLast? = some x.width → knitParts v f l x = .ok y → (wids c0 y.rows.reverse).getLast? = some y.width
theorem piece_w (v : List Int) : ∀ f, PieceW v f
  | 0 => ⟨fun p x y c0 _ h => (by rw [knitPart_zero] at h; cases h), fun l k x y c0 _ h => (by rw [knitTimes_zero] at h; cases h), fun l x y c0 _ h => (by rw [knitParts_zero] at h; cases h)⟩
  | f + 1 => by
    have ih := piece_w v f
    refine ⟨fun p x y c0 hx h => ?_, fun l k x y c0 hx h => ?_, fun l x y c0 hx h => ?_⟩
    · cases p with
      | row k nm l =>
        rw [knitPart_row] at h
        by_cases c : x.left = 0
        · rw [if_pos c] at h; cases h
        · rw [if_neg c] at h
          cases e : runItems v FUEL l ⟨x.width, [], x.left - 1⟩ with
          | error w => rw [e] at h; cases h
          | ok r =>
            rw [e] at h
            dsimp only at h
            by_cases c2 : r.rem ≠ 0
            · rw [if_pos c2] at h; cases h
            · rw [if_neg c2] at h
              cases h
              show (wids c0 ((k, r.out.reverse) :: x.rows).reverse).getLast? = some (made r.out)
              rw [List.reverse_cons]
              unfold wids
              rw [List.map_append, ← List.cons_append]
              show (_ ++ [made r.out.reverse]).getLast? = _
              rw [made_rev, List.getLast?_append]; rfl
      | again t l =>
        rw [knitPart_again] at h
        by_cases c : x.left = 0
        · rw [if_pos c] at h; cases h
        · rw [if_neg c] at h
          by_cases c1 : value v t < 0
          · rw [if_pos c1] at h; cases h
          · rw [if_neg c1] at h
            by_cases c2 : ((x.left - 1 : Nat) : Int) < value v t
            · rw [if_pos c2] at h; cases h
            · rw [if_neg c2] at h
              exact ih.times l _ { x with left := x.left - 1 } y c0 hx h
    · cases k with
      | zero => rw [knitTimes_none] at h; cases h; exact hx
      | succ k =>
        rw [knitTimes_succ] at h
        obtain ⟨z, h1, h2⟩ := bind_ok h
        exact ih.times l k z y c0 (ih.parts l x z c0 hx h1) h2
    · cases l with
      | nil => rw [knitParts_nil] at h; cases h; exact hx
      | cons p l =>
        rw [knitParts_cons] at h
        obtain ⟨z, h1, h2⟩ := bind_ok h
        exact ih.parts l z y c0 (ih.part p x z c0 hx h1) h2
theorem knit0_wid {q : Pattern} {v : List Int} {x : Piece} (h : knit0 q v = .ok x) : (wids (value v q.cast).toNat x.rows.reverse).getLast? = some x.width := by
  unfold knit0 at h
  by_cases c1 : value v q.cast < 1
  · rw [if_pos c1] at h; cases h
  · rw [if_neg c1] at h
    by_cases c2 : (1500 : Int) < value v q.cast
    · rw [if_pos c2] at h; cases h
    · rw [if_neg c2] at h
      exact (piece_w v FUEL).parts _ _ x _ rfl h
/-- a state that calls can lead to -/
def StG (s : State) : Prop := s = {} ∨ (s.there = true ∧ ReadG 3000 s.pattern (allRows s.pattern.parts))
theorem ReadG.named {m : Nat} {q : Pattern} {rows : List (Text × Items)} (h : ReadG m q rows) : Named q.sizes := fun s hs => (h.sizes s hs).name
theorem StG.named {s : State} (h : StG s) : Named s.pattern.sizes := by
  rcases h with h | ⟨_, h⟩
  · rw [h]; exact fun s hs => nomatch hs
  · exact h.named
theorem StG.lets {s : State} (h : StG s) : letters s.pattern = lets (s.pattern.sizes.map sgn) := h.named.lets.symm
/-! what of a size is answered -/
def ofI (s : State) (v : List Int) (f : Piece → Ans) : State × Ans := if s.there = false then no s (-1) else if isSize s.pattern v = false then no s (-2) else match Vbktaa.knit s.pattern v with
    | .error w => (s, wrongRow w)
    | .ok x => (s, 0 :: f x)
theorem wrong_is (w : Wrong) : wrongRow w = [1, (w.done : Int), rowI w, (w.why : Int)] := by
  unfold wrongRow rowI
  cases w.row <;> rfl
theorem of_is (s : State) (n : Nat) (i : Int) (v : List Int) (f : Piece → Ans) (h : ∀ x, knit0 s.pattern v = .ok x → 0 :: f { x with rows := x.rows.reverse } = toldI n i x.rows.reverse (wids (value v s.pattern.cast).toNat x.rows.reverse)) :
    (s, ofSizeI s n i v) = ofI s v f := by
  unfold ofSizeI ofI no
  rw [knit_is, sizeOk_is]
  by_cases c : s.there = false
  · rw [if_pos c, if_pos c]
  · rw [if_neg c, if_neg c]
    by_cases c2 : sizeOk s.pattern.sizes v = false
    · rw [if_pos c2, if_pos c2]
    · rw [if_neg c2, if_neg c2]
      cases e : knit0 s.pattern v with
      | error w => show (s, _) = (s, wrongRow w); rw [wrong_is]
      | ok x => show (s, _) = (s, 0 :: f _); rw [h x e]
theorem getLastD_of {l : List Nat} {x : Nat} (h : l.getLast? = some x) : l.getLastD 0 = x := by
  rw [List.getLastD_eq_getLast?, h]; rfl
theorem sum_len (l : List (Nat × List Nat)) : (l.map fun r => r.2.length).foldl (fun a b => a + b) 0 = (allS l).length := by
  rw [foldl_sumN, Nat.zero_add]
  unfold allS
  rw [List.length_flatMap]
theorem count_one (k : Nat) (l : List Nat) : (l.filter fun z => z == k).length = (intsN l).count (k : Int) := by
  unfold intsN
  induction l with
  | nil => rfl
  | cons a r ih =>
    rw [List.map_cons, List.count_cons, ← ih, List.filter_cons]
    by_cases c : a = k
    · rw [if_pos (by rw [c]; simp), if_pos (by rw [c]; simp)]; rfl
    · rw [if_neg (by simpa using c), if_neg (by simp only [beq_iff_eq]; omega)]; rfl
theorem count_all (k : Nat) (l : List (Nat × List Nat)) : (l.map fun r => (r.2.filter fun z => z == k).length).foldl (fun a b => a + b) 0 = (intsN (allS l)).count (k : Int) := by
  rw [foldl_sumN, Nat.zero_add, ← count_one]
  unfold allS
  rw [List.filter_flatMap, List.length_flatMap]
theorem coef_all (f : Form) (n : Nat) (h : f.l.length = n) : (List.range n).map (coef f) = f.l := by
  refine List.ext_getElem (by simp [h]) (fun i h1 h2 => ?_)
  simp only [List.getElem_map, List.getElem_range]
  show f.l.getD i 0 = _
  rw [List.getD_eq_getElem?_getD, List.getElem?_eq_getElem h2]; rfl
theorem bytes_nat {r : List Int} (h : ∀ z ∈ r, 0 ≤ z) : intsN (r.map Int.toNat) = r := by
  unfold intsN
  rw [List.map_map]
  conv => rhs; rw [← List.map_id r]
  refine List.map_congr_left fun z hz => ?_
  have := h z hz
  show ((z.toNat : Nat) : Int) = z
  omega
/-! the calls, one by one -/
inductive CallC : List (List Int) → Prop where
  | pattern (t : List Int) : CallC [[0], t]
  | print : CallC [[1]]
  | knit (v : List Int) : CallC [[2], v]
  | row (i : Int) (v : List Int) : CallC [[3, i], v]
  | widths (v : List Int) : CallC [[4], v]
  | counts (v : List Int) : CallC [[5], v]
  | source (v : List Int) : CallC [[6], v]
  | form (t : List Int) : CallC [[7], t]
  | value (t v : List Int) : CallC [[8], t, v]
  | find (t : List Int) : CallC [[9], t]
  | words : CallC [[10]]
  | flat (v : List Int) : CallC [[11], v]
  | try_ (t v : List Int) : CallC [[12], t, v]
  | sizes : CallC [[13]]
theorem len0 {a : List Int} (h : (0 : Nat) = a.length) : a = [] := List.length_eq_zero_iff.mp h.symm
theorem len1 {α : Type} {a : List α} (h : (1 : Nat) = a.length) : ∃ x, a = [x] := List.length_eq_one_iff.mp h.symm
theorem len2 {α : Type} {a : List α} (h : (2 : Nat) = a.length) : ∃ x y, a = [x, y] := match a, h with
  | [x, y], _ => ⟨x, y, rfl⟩
theorem pair_inj {a b c d : Nat} (h : some (a, b) = some (c, d)) : a = c ∧ b = d := Prod.mk.inj (Option.some.inj h)
theorem call_cases {c : List (List Int)} (h : okCall PyVbktaa.shape c) : CallC c := by
  obtain ⟨p, a, rows, rfl, h⟩ := h
  unfold PyVbktaa.shape at h
  by_cases c0 : p = 0
  · rw [if_pos c0] at h
    obtain ⟨h1, h2⟩ := pair_inj h
    obtain ⟨x, rfl⟩ := len1 h2
    rw [len0 h1, c0]; exact .pattern x
  rw [if_neg c0] at h
  by_cases c1 : p = 1
  · rw [if_pos c1] at h
    obtain ⟨h1, h2⟩ := pair_inj h
    rw [len0 h1, List.length_eq_zero_iff.mp h2.symm, c1]; exact .print
  rw [if_neg c1] at h
  by_cases c2 : p = 2
  · rw [if_pos c2] at h
    obtain ⟨h1, h2⟩ := pair_inj h
    obtain ⟨x, rfl⟩ := len1 h2
    rw [len0 h1, c2]; exact .knit x
  rw [if_neg c2] at h
  by_cases c3 : p = 3
  · rw [if_pos c3] at h
    obtain ⟨h1, h2⟩ := pair_inj h
    obtain ⟨x, rfl⟩ := len1 h2
    obtain ⟨i, rfl⟩ := len1 h1
    rw [c3]; exact .row i x
  rw [if_neg c3] at h
  by_cases c4 : p = 4
  · rw [if_pos c4] at h
    obtain ⟨h1, h2⟩ := pair_inj h
    obtain ⟨x, rfl⟩ := len1 h2
    rw [len0 h1, c4]; exact .widths x
  rw [if_neg c4] at h
  by_cases c5 : p = 5
  · rw [if_pos c5] at h
    obtain ⟨h1, h2⟩ := pair_inj h
    obtain ⟨x, rfl⟩ := len1 h2
    rw [len0 h1, c5]; exact .counts x
  rw [if_neg c5] at h
  by_cases c6 : p = 6
  · rw [if_pos c6] at h
    obtain ⟨h1, h2⟩ := pair_inj h
    obtain ⟨x, rfl⟩ := len1 h2
    rw [len0 h1, c6]; exact .source x
  rw [if_neg c6] at h
  by_cases c7 : p = 7
  · rw [if_pos c7] at h
    obtain ⟨h1, h2⟩ := pair_inj h
    obtain ⟨x, rfl⟩ := len1 h2
    rw [len0 h1, c7]; exact .form x
  rw [if_neg c7] at h
  by_cases c8 : p = 8
  · rw [if_pos c8] at h
    obtain ⟨h1, h2⟩ := pair_inj h
    obtain ⟨x, y, rfl⟩ := len2 h2
    rw [len0 h1, c8]; exact .value x y
  rw [if_neg c8] at h
  by_cases c9 : p = 9
  · rw [if_pos c9] at h
    obtain ⟨h1, h2⟩ := pair_inj h
    obtain ⟨x, rfl⟩ := len1 h2
    rw [len0 h1, c9]; exact .find x
  rw [if_neg c9] at h
  by_cases c10 : p = 10
  · rw [if_pos c10] at h
    obtain ⟨h1, h2⟩ := pair_inj h
    rw [len0 h1, List.length_eq_zero_iff.mp h2.symm, c10]; exact .words
  rw [if_neg c10] at h
  by_cases c11 : p = 11
  · rw [if_pos c11] at h
    obtain ⟨h1, h2⟩ := pair_inj h
    obtain ⟨x, rfl⟩ := len1 h2
    rw [len0 h1, c11]; exact .flat x
  rw [if_neg c11] at h
  by_cases c12 : p = 12
  · rw [if_pos c12] at h
    obtain ⟨h1, h2⟩ := pair_inj h
    obtain ⟨x, y, rfl⟩ := len2 h2
    rw [len0 h1, c12]; exact .try_ x y
  rw [if_neg c12] at h
  by_cases c13 : p = 13
  · rw [if_pos c13] at h
    obtain ⟨h1, h2⟩ := pair_inj h
    rw [len0 h1, List.length_eq_zero_iff.mp h2.symm, c13]; exact .sizes
  rw [if_neg c13] at h
  cases h
/-- a text of bytes that is asked -/
structure ByteG (t : List Int) (m : Nat) : Prop where
  len : t.length ≤ m
  pos : ∀ z ∈ t, 0 ≤ z
  all : t.all byte = true
theorem byteG {t : List Int} {m : Nat} (h : VbktaaNeutral.bytes t m = true) : ByteG t m := by
  unfold VbktaaNeutral.bytes VbktaaNeutral.row at h
  simp only [Bool.and_eq_true, decide_eq_true_eq, List.all_eq_true] at h
  obtain ⟨⟨h1, _⟩, h2⟩ := h
  refine ⟨h1, fun z hz => (h2 z hz).1, List.all_eq_true.mpr fun z hz => ?_⟩
  unfold byte inside
  rw [decide_eq_true (h2 z hz).1, decide_eq_true (h2 z hz).2]; rfl
def nat_ (t : List Int) : List Nat := t.map Int.toNat
theorem step_pattern {s : State} {t : List Int} (h : ByteG t 2000) (hs : StG s) : putI s (nat_ t) = Vbktaa.step s (.pattern t) ∧ StG (putI s (nat_ t)).1 := by
  have e : Vbktaa.step s (.pattern t) = putI s (nat_ t) := by
    show (if t.all byte = false then no s (-2) else (match readText (nat_ t) with
    | .inl x => (s, [1, (x.1 : Int), (x.2 : Int)])
    | .inr q => ({ pattern := q, there := true }, 0 :: Vbktaa.ints [q.sizes.length, (rowNames q).length]))) = _
    rw [if_neg (by rw [h.all]; decide)]
    unfold putI
    cases readText (nat_ t) with
    | inl x => rfl
    | inr q =>
      have e : (rowNames q).length = (allRows q.parts).length := List.length_map _
      show (({ pattern := q, there := true } : State), 0 :: Vbktaa.ints [q.sizes.length, (rowNames q).length]) = (_, [0, (q.sizes.length : Int), ((allRows q.parts).length : Int)])
      rw [e]
      rfl
  refine ⟨e.symm, ?_⟩
  unfold putI
  cases er : readText (nat_ t) with
  | inl x => exact hs
  | inr q =>
    refine .inr ⟨rfl, text_good ?_ er⟩
    unfold nat_
    rw [List.length_map]
    have := h.len
    omega
theorem step_knit (s : State) (v : List Int) : (s, ofSizeI s 2 0 v) = Vbktaa.step s (.knit v) := by
  refine of_is s 2 0 v _ fun x hx => ?_
  show 0 :: Vbktaa.ints [x.rows.reverse.length, x.width, _] = _
  rw [sum_len]
  show _ = [0, (x.rows.reverse.length : Int), (((wids (Vbktaa.value v s.pattern.cast).toNat x.rows.reverse).getLastD 0 : Nat) : Int), ((allS x.rows.reverse).length : Int)]
  rw [getLastD_of (knit0_wid hx)]
  rfl
theorem step_widths (s : State) (v : List Int) : (s, ofSizeI s 4 0 v) = Vbktaa.step s (.widths v) := by
  refine of_is s 4 0 v _ fun x hx => ?_
  rfl
theorem step_counts (s : State) (v : List Int) : (s, ofSizeI s 5 0 v) = Vbktaa.step s (.counts v) := by
  refine of_is s 5 0 v _ fun x hx => ?_
  show 0 :: Vbktaa.ints ((List.range 8).map fun k => ((x.rows.reverse.map fun r => (r.2.filter fun z => z == k).length).foldl (fun a b => a + b) 0)) = 0 :: (List.range 8).map (fun (k : Nat) => (((intsN (allS x.rows.reverse)).count (k : Int) : Nat) : Int))
  unfold Vbktaa.ints
  rw [List.map_map]
  congr 1
  refine List.map_congr_left fun k hk => ?_
  show ((((x.rows.reverse.map fun r => (r.2.filter fun z => z == k).length).foldl (fun a b => a + b) 0 : Nat)) : Int) = _
  rw [count_all]
theorem step_source (s : State) (v : List Int) : (s, ofSizeI s 6 0 v) = Vbktaa.step s (.source v) := by
  refine of_is s 6 0 v _ fun x hx => ?_
  rfl
theorem step_row (s : State) (i : Int) (v : List Int) : (s, ofSizeI s 3 i v) = Vbktaa.step s (.row i v) := by
  show _ = (match (ofI s v fun x => [(x.rows.length : Int)]).2, (if s.there = true ∧ isSize s.pattern v = true then Vbktaa.knit s.pattern v else .error ⟨0, none, 0⟩) with
    | 0 :: _, .ok x => (match (if i < 0 then none else x.rows[i.toNat]?) with
      | none => no s (-4)
      | some r => (s, 0 :: Vbktaa.ints (r.1 :: r.2)))
    | _, _ => ofI s v fun x => [(x.rows.length : Int)])
  unfold ofSizeI ofI no
  rw [knit_is, sizeOk_is]
  cases c : s.there with
  | false => rfl
  | true =>
    cases c2 : sizeOk s.pattern.sizes v with
    | false => rfl
    | true =>
      have h0 : ¬ (true = false) := by decide
      simp only [if_neg h0]
      rw [if_pos ⟨trivial, trivial⟩]
      cases e : knit0 s.pattern v with
      | error w =>
        show (s, _) = _
        dsimp only [Except.map]
        rw [wrong_is]
        rfl
      | ok x =>
        dsimp only [Except.map]
        show (s, rowToldI x.rows.reverse i) = (match (if i < 0 then none else x.rows.reverse[i.toNat]?) with
          | none => (s, [-4])
          | some r => (s, 0 :: Vbktaa.ints (r.1 :: r.2)))
        unfold rowToldI
        by_cases ci : i < 0
        · rw [if_neg (by omega), if_pos ci]
        · rw [if_neg ci]
          by_cases cj : i < (x.rows.reverse.length : Int)
          · rw [if_pos ⟨by omega, cj⟩]
            have hj : i.toNat < x.rows.reverse.length := by omega
            rw [List.getElem?_eq_getElem hj]; rfl
          · rw [if_neg (by omega), List.getElem?_eq_none (by omega)]
theorem step_flat (s : State) (v : List Int) : (s, ofSizeI s 11 0 v) = Vbktaa.step s (.flat v) := by
  show _ = (if (ofI s v fun x => Vbktaa.ints (flatText s.pattern v x)).2.headD 1 = 0 ∧ (match Vbktaa.knit s.pattern v with
      | .ok x => decide (ROWS < x.rows.length)
      | .error _ => false) = true then no s (-5) else ofI s v fun x => Vbktaa.ints (flatText s.pattern v x))
  unfold ofSizeI ofI no
  rw [knit_is, sizeOk_is]
  cases c : s.there with
  | false => rfl
  | true =>
    cases c2 : sizeOk s.pattern.sizes v with
    | false => rfl
    | true =>
      have h0 : ¬ (true = false) := by decide
      simp only [if_neg h0]
      cases e : knit0 s.pattern v with
      | error w =>
        dsimp only [Except.map]
        exact (congrArg (Prod.mk s) (wrong_is w).symm).trans (if_neg (fun h => Bool.noConfusion h.2)).symm
      | ok x =>
        dsimp only [Except.map]
        show (s, (if 20 < x.rows.reverse.length then [-5] else 0 :: intsN (flatT ((wids (Vbktaa.value v s.pattern.cast).toNat x.rows.reverse).headD 0) x.rows.reverse))) = _
        by_cases c3 : 20 < x.rows.reverse.length
        · rw [if_pos c3]
          exact (if_pos ⟨rfl, decide_eq_true c3⟩).symm
        · rw [if_neg c3]
          exact Eq.symm (if_neg (fun h => c3 (of_decide_eq_true h.2)))
theorem step_print (s : State) : (s, ofPatternI s 1) = Vbktaa.step s .print := by
  show _ = (if s.there = false then no s (-1) else (s, 0 :: Vbktaa.ints (shown s.pattern)))
  unfold ofPatternI no
  by_cases c : s.there = false
  · rw [if_pos c, if_pos c]
  · rw [if_neg c, if_neg c]; rfl
theorem step_words (s : State) (hs : StG s) : (s, ofPatternI s 10) = Vbktaa.step s .words := by
  show _ = (if s.there = false then no s (-1) else (s, [0, (wordCount (shown s.pattern) : Int)]))
  unfold ofPatternI no
  by_cases c : s.there = false
  · rw [if_pos c, if_pos c]
  · rw [if_neg c, if_neg c]
    rcases hs with h | ⟨_, h⟩
    · rw [h] at c; exact absurd rfl c
    · rw [h.words]; rfl
theorem step_sizes (s : State) (hs : StG s) : (s, ofPatternI s 13) = Vbktaa.step s .sizes := by
  show _ = (if s.there = false then no s (-1) else (s, 0 :: s.pattern.sizes.flatMap fun z => Vbktaa.ints (z.name ++ [z.lo, z.step]) ++ [match z.hi with
    | some h => (h : Int)
    | none => -1]))
  unfold ofPatternI no
  by_cases c : s.there = false
  · rw [if_pos c, if_pos c]
  · rw [if_neg c, if_neg c]
    show (s, sizesI s.pattern.sizes) = _
    unfold sizesI
    congr 2
    have := hs.named
    generalize s.pattern.sizes = ss at this
    induction ss with
    | nil => rfl
    | cons z r ih =>
      rw [List.flatMap_cons, List.flatMap_cons, ih fun y hy => this y (List.mem_cons_of_mem _ hy)]
      congr 1
      obtain ⟨n, e, _⟩ := this z List.mem_cons_self
      rw [e]
      show [(((z.name.headD 0 : Nat)) : Int), _, _, _] = _
      rw [e]; rfl
theorem step_form (s : State) (hs : StG s) (t : List Int) (h : ByteG t 60) : (s, formToldI s (nat_ t)) = Vbktaa.step s (.form t) := by
  show _ = (if t.all byte = false then no s (-2) else (match formOf (letters s.pattern) (nat_ t) with
    | none => no s (-3)
    | some f => (s, 0 :: f.c :: (List.range s.pattern.sizes.length).map (coef f) ++ Vbktaa.ints (shownForm (letters s.pattern) f))))
  rw [if_neg (by rw [h.all]; decide), hs.lets]
  show _ = (match formI (s.pattern.sizes.map sgn) (nat_ t) with
    | none => no s (-3)
    | some f => (s, 0 :: f.c :: (List.range s.pattern.sizes.length).map (coef f) ++ Vbktaa.ints (shownForm (lets (s.pattern.sizes.map sgn)) f)))
  unfold formToldI no
  cases e : formI (s.pattern.sizes.map sgn) (nat_ t) with
  | none => rfl
  | some f =>
    have hl : f.l.length = s.pattern.sizes.length := by rw [(formI_ok e).1, List.length_map]
    dsimp only
    rw [coef_all f _ hl]
    rfl
theorem step_value (s : State) (hs : StG s) (t v : List Int) (h : ByteG t 60) : (s, valueToldI s (nat_ t) v) = Vbktaa.step s (.value t v) := by
  show _ = (if t.all byte = false then no s (-2) else (match formOf (letters s.pattern) (nat_ t) with
    | none => no s (-3)
    | some f => if isSize s.pattern v = false then no s (-2) else (s, [0, Vbktaa.value v f])))
  rw [if_neg (by rw [h.all]; decide), hs.lets, sizeOk_is]
  show _ = (match formI (s.pattern.sizes.map sgn) (nat_ t) with
    | none => no s (-3)
    | some f => if sizeOk s.pattern.sizes v = false then no s (-2) else (s, [0, Vbktaa.value v f]))
  unfold valueToldI no
  cases e : formI (s.pattern.sizes.map sgn) (nat_ t) with
  | none => rfl
  | some f =>
    dsimp only
    by_cases c : sizeOk s.pattern.sizes v = false
    · rw [if_pos c, if_pos c]
    · rw [if_neg c, if_neg c]
theorem step_find (s : State) (t : List Int) (h : ByteG t 20) : (s, foundI s (nat_ t)) = Vbktaa.step s (.find t) := by
  show _ = (if t.all byte = false then no s (-2) else (match idxOf (rowNames s.pattern) (nat_ t) with
    | none => no s (-3)
    | some k => (s, [0, (k : Int)])))
  rw [if_neg (by rw [h.all]; decide)]
  unfold foundI no
  show (s, match idxOf (rowNames s.pattern) (nat_ t) with
    | none => [-3]
    | some k => [0, (k : Int)]) = _
  cases idxOf (rowNames s.pattern) (nat_ t) with
  | none => rfl
  | some k => rfl
theorem step_try (s : State) (t v : List Int) (h : ByteG t 2000) : (s, triedI (nat_ t) v) = Vbktaa.step s (.try_ t v) := by
  show _ = (if t.all byte = false then no s (-2) else (match readText (nat_ t) with
    | .inl x => (s, [1, (x.1 : Int), (x.2 : Int)])
    | .inr q => if isSize q v = false then no s (-2) else match Vbktaa.knit q v with
      | .error w => (s, [2, (w.done : Int), (w.why : Int)])
      | .ok x => (s, 0 :: Vbktaa.ints [x.rows.length, x.width])))
  rw [if_neg (by rw [h.all]; decide)]
  unfold triedI no
  cases readText (nat_ t) with
  | inl x => rfl
  | inr q =>
    dsimp only
    rw [sizeOk_is, knit_is]
    by_cases c : sizeOk q.sizes v = false
    · rw [if_pos c, if_pos c]
    · rw [if_neg c, if_neg c]
      cases knit0 q v with
      | error w => rfl
      | ok x =>
        show (s, [0, (x.rows.length : Int), (x.width : Int)]) = (s, [0, (x.rows.reverse.length : Int), (x.width : Int)])
        rw [List.length_reverse]
theorem whole_is (c : List (List Int)) : PyVbktaa.whole c = c := by
  unfold PyVbktaa.whole
  split <;> rfl
theorem row_asked {v : List Int} {m : Nat} (h : VbktaaNeutral.row v m = true) : v.length ≤ m := by
  unfold VbktaaNeutral.row at h
  rw [Bool.and_eq_true, decide_eq_true_eq] at h
  exact h.1
/-- what is answered, and what is handed in with it -/
theorem step_is {s : State} {c : List (List Int)} (hs : StG s) (ho : okCall PyVbktaa.shape c) (ha : VbktaaNeutral.asked1 c = true) : stepI s c = VbktaaNeutral.step s c ∧ StG (stepI s c).1 ∧ CallG c := by
  have ok := ho
  cases call_cases ho with
  | pattern t =>
    have h := byteG (show VbktaaNeutral.bytes t 2000 = true from ha)
    obtain ⟨e, g⟩ := step_pattern h hs
    refine ⟨e, g, ⟨ok, by show 2 ≤ 10; decide, fun p a rows ec => ?_⟩⟩
    cases ec
    exact ⟨fun q => (by cases q), ⟨fun q => (by cases q), fun _ => ⟨congrArg some (bytes_nat h.pos).symm, by show (t.map Int.toNat).length ≤ 2400; rw [List.length_map]; have := h.len; omega⟩, fun q => (by rcases q with q | q <;> cases q)⟩⟩
  | print =>
    refine ⟨step_print s, hs, ⟨ok, by decide, fun p a rows ec => ?_⟩⟩
    cases ec
    exact ⟨fun q => (by cases q), ⟨fun q => (by cases q), fun q => (by rcases q with q | q | q | q | q <;> cases q), fun q => (by rcases q with q | q <;> cases q)⟩⟩
  | knit v =>
    refine ⟨step_knit s v, hs, ⟨ok, by show 2 ≤ 10; decide, fun p a rows ec => ?_⟩⟩
    cases ec
    exact ⟨fun q => (by cases q), ⟨fun _ => rfl, fun q => (by rcases q with q | q | q | q | q <;> cases q), fun q => (by rcases q with q | q <;> cases q)⟩⟩
  | row i v =>
    refine ⟨step_row s i v, hs, ⟨ok, by show 2 ≤ 10; decide, fun p a rows ec => ?_⟩⟩
    cases ec
    exact ⟨fun _ => ⟨i, rfl⟩, ⟨fun _ => rfl, fun q => (by rcases q with q | q | q | q | q <;> cases q), fun q => (by rcases q with q | q <;> cases q)⟩⟩
  | widths v =>
    refine ⟨step_widths s v, hs, ⟨ok, by show 2 ≤ 10; decide, fun p a rows ec => ?_⟩⟩
    cases ec
    exact ⟨fun q => (by cases q), ⟨fun _ => rfl, fun q => (by rcases q with q | q | q | q | q <;> cases q), fun q => (by rcases q with q | q <;> cases q)⟩⟩
  | counts v =>
    refine ⟨step_counts s v, hs, ⟨ok, by show 2 ≤ 10; decide, fun p a rows ec => ?_⟩⟩
    cases ec
    exact ⟨fun q => (by cases q), ⟨fun _ => rfl, fun q => (by rcases q with q | q | q | q | q <;> cases q), fun q => (by rcases q with q | q <;> cases q)⟩⟩
  | source v =>
    refine ⟨step_source s v, hs, ⟨ok, by show 2 ≤ 10; decide, fun p a rows ec => ?_⟩⟩
    cases ec
    exact ⟨fun q => (by cases q), ⟨fun _ => rfl, fun q => (by rcases q with q | q | q | q | q <;> cases q), fun q => (by rcases q with q | q <;> cases q)⟩⟩
  | form t =>
    have h := byteG (show VbktaaNeutral.bytes t 60 = true from ha)
    refine ⟨step_form s hs t h, hs, ⟨ok, by show 2 ≤ 10; decide, fun p a rows ec => ?_⟩⟩
    cases ec
    exact ⟨fun q => (by cases q), ⟨fun q => (by cases q), fun _ => ⟨congrArg some (bytes_nat h.pos).symm, by show (t.map Int.toNat).length ≤ 2400; rw [List.length_map]; have := h.len; omega⟩, fun q => (by rcases q with q | q <;> cases q)⟩⟩
  | value t v =>
    have h0 : (VbktaaNeutral.bytes t 60 && VbktaaNeutral.row v 4) = true := ha
    rw [Bool.and_eq_true] at h0
    have h := byteG h0.1
    refine ⟨step_value s hs t v h, hs, ⟨ok, by show 3 ≤ 10; decide, fun p a rows ec => ?_⟩⟩
    cases ec
    exact ⟨fun q => (by cases q), ⟨fun q => (by cases q), fun _ => ⟨congrArg some (bytes_nat h.pos).symm, by show (t.map Int.toNat).length ≤ 2400; rw [List.length_map]; have := h.len; omega⟩, fun _ => rfl⟩⟩
  | find t =>
    have h := byteG (show VbktaaNeutral.bytes t 20 = true from ha)
    refine ⟨step_find s t h, hs, ⟨ok, by show 2 ≤ 10; decide, fun p a rows ec => ?_⟩⟩
    cases ec
    exact ⟨fun q => (by cases q), ⟨fun q => (by cases q), fun _ => ⟨congrArg some (bytes_nat h.pos).symm, by show (t.map Int.toNat).length ≤ 2400; rw [List.length_map]; have := h.len; omega⟩, fun q => (by rcases q with q | q <;> cases q)⟩⟩
  | words =>
    refine ⟨step_words s hs, hs, ⟨ok, by decide, fun p a rows ec => ?_⟩⟩
    cases ec
    exact ⟨fun q => (by cases q), ⟨fun q => (by cases q), fun q => (by rcases q with q | q | q | q | q <;> cases q), fun q => (by rcases q with q | q <;> cases q)⟩⟩
  | flat v =>
    refine ⟨step_flat s v, hs, ⟨ok, by show 2 ≤ 10; decide, fun p a rows ec => ?_⟩⟩
    cases ec
    exact ⟨fun q => (by cases q), ⟨fun _ => rfl, fun q => (by rcases q with q | q | q | q | q <;> cases q), fun q => (by rcases q with q | q <;> cases q)⟩⟩
  | try_ t v =>
    have h0 : (VbktaaNeutral.bytes t 2000 && VbktaaNeutral.row v 4) = true := ha
    rw [Bool.and_eq_true] at h0
    have h := byteG h0.1
    refine ⟨step_try s t v h, hs, ⟨ok, by show 3 ≤ 10; decide, fun p a rows ec => ?_⟩⟩
    cases ec
    exact ⟨fun q => (by cases q), ⟨fun q => (by cases q), fun _ => ⟨congrArg some (bytes_nat h.pos).symm, by show (t.map Int.toNat).length ≤ 2400; rw [List.length_map]; have := h.len; omega⟩, fun _ => rfl⟩⟩
  | sizes =>
    refine ⟨step_sizes s hs, hs, ⟨ok, by decide, fun p a rows ec => ?_⟩⟩
    cases ec
    exact ⟨fun q => (by cases q), ⟨fun q => (by cases q), fun q => (by rcases q with q | q | q | q | q <;> cases q), fun q => (by rcases q with q | q <;> cases q)⟩⟩
theorem played_is : ∀ (cs : List (List (List Int))) (s : State), StG s → (∀ c ∈ cs, okCall PyVbktaa.shape c ∧ VbktaaNeutral.asked1 c = true) → played stepI s cs = played VbktaaNeutral.step s cs
  | [], _, _, _ => rfl
  | c :: r, s, hs, h => by
    obtain ⟨h1, h2⟩ := h c List.mem_cons_self
    obtain ⟨e, g, _⟩ := step_is hs h1 h2
    show (stepI s c).2 :: played stepI (stepI s c).1 r = (VbktaaNeutral.step s c).2 :: played VbktaaNeutral.step (VbktaaNeutral.step s c).1 r
    rw [played_is r _ g fun d hd => h d (List.mem_cons_of_mem _ hd), e]
/-- whatever may be asked -/
theorem asked_is {l : List Int} (h : PyVbktaa.answers_asked l = true) : ∃ raw : List (List (List Int)), l = put raw ∧ raw.length ≤ 1000 ∧ (∀ c ∈ raw, CallG c) ∧ (told (played stepI {} raw)).length ≤ 10000000 ∧ told (played stepI {} raw) = PyVbktaa.answers l := by
  unfold PyVbktaa.answers_asked at h
  cases e : PyFlat.calls PyVbktaa.shape l.length l with
  | none => rw [e] at h; cases h
  | some raw =>
    rw [e] at h
    simp only [Bool.and_eq_true] at h
    obtain ⟨⟨⟨⟨h1, h2⟩, h3⟩, h4⟩, h5⟩ := h
    obtain ⟨p1, p2⟩ := PyFlat.put_calls l.length l raw e
    have ew : raw.map PyVbktaa.whole = raw := by
      conv => rhs; rw [← List.map_id raw]
      exact List.map_congr_left fun c _ => whole_is c
    rw [ew] at h4
    unfold VbktaaNeutral.asked at h4
    simp only [Bool.and_eq_true, decide_eq_true_eq, List.all_eq_true] at h4
    have ha : ∀ c ∈ raw, okCall PyVbktaa.shape c ∧ VbktaaNeutral.asked1 c = true := fun c hc => ⟨p2 c hc, h4.1 c hc⟩
    have eA : told (played stepI {} raw) = PyVbktaa.answers l := by
      unfold PyVbktaa.answers PyVbktaa.calls
      rw [e]
      dsimp only
      rw [ew, played_is raw {} (.inl rfl) ha]; rfl
    unfold PyFlat.short at h5
    rw [decide_eq_true_eq] at h5
    refine ⟨raw, p1, by have := h4.2.2.1; omega, fun c hc => (step_is (s := {}) (.inl rfl) (ha c hc).1 (ha c hc).2).2.2, by rw [eA]; exact h5, eA⟩
end Kn
namespace Kn
open PySem PySem.Spec PyProof.Rows L2
/-! ### from what the top has left to the promise of answers -/
theorem both {a b : Bool} (h : (a && b) = true) : a = true ∧ b = true := Bool.and_eq_true_iff.mp h
theorem exc_of {K : PySem.W.Frag} {x : Str} (h : excOne K x = true) (kp : PySem.W.keepIn K (.ref (He.ga K x)) = true) : ExcC K (He.ga K x) (He.ma K (He.ga K x) "__init__") ∧ XfC K (He.ga K x) := by
  obtain ⟨h1, h⟩ := both h
  obtain ⟨h2, h⟩ := both h
  obtain ⟨h3, h⟩ := both h
  obtain ⟨h4, h⟩ := both h
  obtain ⟨h5, h⟩ := both h
  obtain ⟨h6, h⟩ := both h
  obtain ⟨h7, h8⟩ := both h
  exact ⟨⟨h1, of_decide_eq_true h2, of_decide_eq_true h3, of_decide_eq_true h4, of_decide_eq_true h5, of_decide_eq_true h6, h8, kp⟩, xfB_ok h7⟩
section
variable {P : Program} {w : World} {K : PySem.W.Frag} {h : Heap} {mg : Str → Option Value} {base : Heap}
theorem txt_of (X : K.In h) (G : h.Ns mainGlobals mg) (c : He.SaysD facts fns K) (ex : more K = true) : Txt K mg := by
  obtain ⟨e1, ex⟩ := both ex
  obtain ⟨e2, ex⟩ := both ex
  obtain ⟨t_STITCHES, ex⟩ := both ex
  obtain ⟨t_BARRED, ex⟩ := both ex
  obtain ⟨t_USED, ex⟩ := both ex
  obtain ⟨t_MADE, ex⟩ := both ex
  obtain ⟨t_NUMBERS, ex⟩ := both ex
  obtain ⟨t_LISTS, ex⟩ := both ex
  have xW := exc_of e1 (He.keep_ok (c.fact 132 (f := .keep "Wrong") rfl))
  have xG := exc_of e2 (He.keep_ok (c.fact 133 (f := .keep "Gone") rfl))
  exact {
    i_BLANK := He.int_ok X G (c.fact 92 (f := .int "BLANK" (32)) rfl)
    i_PLUS := He.int_ok X G (c.fact 93 (f := .int "PLUS" (43)) rfl)
    i_MINUS := He.int_ok X G (c.fact 94 (f := .int "MINUS" (45)) rfl)
    i_MOST_DIGITS := He.int_ok X G (c.fact 95 (f := .int "MOST_DIGITS" (4)) rfl)
    i_MOST_TERMS := He.int_ok X G (c.fact 96 (f := .int "MOST_TERMS" (6)) rfl)
    i_MOST_NUMBER := He.int_ok X G (c.fact 97 (f := .int "MOST_NUMBER" (9999)) rfl)
    i_LINE_END := He.int_ok X G (c.fact 98 (f := .int "LINE_END" (10)) rfl)
    i_STITCH := He.int_ok X G (c.fact 99 (f := .int "STITCH" (0)) rfl)
    i_ROUND := He.int_ok X G (c.fact 100 (f := .int "ROUND" (1)) rfl)
    i_FILL := He.int_ok X G (c.fact 101 (f := .int "FILL" (2)) rfl)
    i_BLOCK := He.int_ok X G (c.fact 102 (f := .int "BLOCK" (-1)) rfl)
    i_MOST_LETTERS := He.int_ok X G (c.fact 103 (f := .int "MOST_LETTERS" (2)) rfl)
    i_MOST_LEAST := He.int_ok X G (c.fact 104 (f := .int "MOST_LEAST" (1000)) rfl)
    i_MOST_STEP := He.int_ok X G (c.fact 105 (f := .int "MOST_STEP" (100)) rfl)
    i_MOST_ROWS := He.int_ok X G (c.fact 106 (f := .int "MOST_ROWS" (20)) rfl)
    i_MOST_WORDS := He.int_ok X G (c.fact 107 (f := .int "MOST_WORDS" (40)) rfl)
    i_MOST_NAME := He.int_ok X G (c.fact 108 (f := .int "MOST_NAME" (8)) rfl)
    i_MOST_DEEP := He.int_ok X G (c.fact 109 (f := .int "MOST_DEEP" (3)) rfl)
    i_MOST_STEPS := He.int_ok X G (c.fact 110 (f := .int "MOST_STEPS" (1500)) rfl)
    i_NO_ROW := He.int_ok X G (c.fact 111 (f := .int "NO_ROW" (-1)) rfl)
    i_MOST_FLAT := He.int_ok X G (c.fact 112 (f := .int "MOST_FLAT" (20)) rfl)
    g_STITCHES := He.glo_ok X G (c.fact 73 (f := .glo "STITCHES") rfl)
    t_STITCHES := fun H => He.tupB_ok t_STITCHES H
    g_BARRED := He.glo_ok X G (c.fact 74 (f := .glo "BARRED") rfl)
    t_BARRED := fun H => He.tupB_ok t_BARRED H
    g_USED := He.glo_ok X G (c.fact 75 (f := .glo "USED") rfl)
    t_USED := fun H => He.tupB_ok t_USED H
    g_MADE := He.glo_ok X G (c.fact 76 (f := .glo "MADE") rfl)
    t_MADE := fun H => He.tupB_ok t_MADE H
    g_NUMBERS := He.glo_ok X G (c.fact 77 (f := .glo "NUMBERS") rfl)
    t_NUMBERS := fun H => He.tupB_ok t_NUMBERS H
    g_LISTS := He.glo_ok X G (c.fact 78 (f := .glo "LISTS") rfl)
    t_LISTS := fun H => He.tupB_ok t_LISTS H
    g_KNIT := He.glo_ok X G (c.fact 79 (f := .glo "KNIT") rfl)
    t_KNIT := fun H => He.tupB_ok ex H
    f_ord := He.free_ok X G (c.fact 80 (f := .free "ord") rfl)
    f_len := He.free_ok X G (c.fact 81 (f := .free "len") rfl)
    f_all := He.free_ok X G (c.fact 82 (f := .free "all") rfl)
    f_any := He.free_ok X G (c.fact 83 (f := .free "any") rfl)
    f_max := He.free_ok X G (c.fact 84 (f := .free "max") rfl)
    f_min := He.free_ok X G (c.fact 85 (f := .free "min") rfl)
    f_abs := He.free_ok X G (c.fact 86 (f := .free "abs") rfl)
    f_str := He.free_ok X G (c.fact 87 (f := .free "str") rfl)
    f_list := He.free_ok X G (c.fact 88 (f := .free "list") rfl)
    f_range := He.free_ok X G (c.fact 89 (f := .free "range") rfl)
    f_zip := He.free_ok X G (c.fact 90 (f := .free "zip") rfl)
    f_enumerate := He.free_ok X G (c.fact 91 (f := .free "enumerate") rfl)
    cPattern := He.cls_ok (c.fact 113 (f := .cls "Pattern") rfl)
    kPattern := He.mkr_ok (c.fact 114 (f := .mkr "Pattern") rfl)
    gPattern := He.glo_ok X G (c.fact 70 (f := .glo "Pattern") rfl)
    nPattern_letters := He.noat_ok (c.fact 115 (f := .noat "Pattern" "letters") rfl)
    nPattern_cast := He.noat_ok (c.fact 116 (f := .noat "Pattern" "cast") rfl)
    nPattern_rows := He.noat_ok (c.fact 117 (f := .noat "Pattern" "rows") rfl)
    nPattern_parts := He.noat_ok (c.fact 118 (f := .noat "Pattern" "parts") rfl)
    cWork := He.cls_ok (c.fact 119 (f := .cls "Work") rfl)
    kWork := He.mkr_ok (c.fact 120 (f := .mkr "Work") rfl)
    gWork := He.glo_ok X G (c.fact 72 (f := .glo "Work") rfl)
    nWork_size := He.noat_ok (c.fact 121 (f := .noat "Work" "size") rfl)
    nWork_steps := He.noat_ok (c.fact 122 (f := .noat "Work" "steps") rfl)
    nWork_row := He.noat_ok (c.fact 123 (f := .noat "Work" "row") rfl)
    nWork_left := He.noat_ok (c.fact 124 (f := .noat "Work" "left") rfl)
    nWork_fresh := He.noat_ok (c.fact 125 (f := .noat "Work" "fresh") rfl)
    nWork_stitches := He.noat_ok (c.fact 126 (f := .noat "Work" "stitches") rfl)
    nWork_done := He.noat_ok (c.fact 127 (f := .noat "Work" "done") rfl)
    nWork_widths := He.noat_ok (c.fact 128 (f := .noat "Work" "widths") rfl)
    mt_signs := He.meth_ok (c.fact 129 (f := .meth "Pattern" "signs") rfl)
    gWrong := He.glo_ok X G (c.fact 69 (f := .glo "Wrong") rfl)
    xWrong := xW.1
    xfWrong := xW.2
    eWrong := He.exm_ok (c.fact 130 (f := .exm "Wrong" "Wrong" true) rfl)
    nWrong_line := He.noat_ok (c.fact 134 (f := .noat "Wrong" "line") rfl)
    nWrong_why := He.noat_ok (c.fact 135 (f := .noat "Wrong" "why") rfl)
    gGone := He.glo_ok X G (c.fact 71 (f := .glo "Gone") rfl)
    xGone := xG.1
    xfGone := xG.2
    eGone := He.exm_ok (c.fact 131 (f := .exm "Gone" "Gone" true) rfl)
    nGone_why := He.noat_ok (c.fact 136 (f := .noat "Gone" "why") rfl)
  }
theorem d_signs_of (X : K.In h) (G : h.Ns mainGlobals mg) (c : He.SaysD facts fns K) : Def K mg "signs_of" s_signs_of := by
  obtain ⟨fd, F⟩ := c.def_ 0 (d := dF "signs_of" 7) rfl
  exact ⟨_, fd, F, He.glo_ok X G (c.fact 0 (f := .glo "signs_of") rfl)⟩
theorem d_is_digit (X : K.In h) (G : h.Ns mainGlobals mg) (c : He.SaysD facts fns K) : Def K mg "is_digit" s_is_digit := by
  obtain ⟨fd, F⟩ := c.def_ 1 (d := dF "is_digit" 8) rfl
  exact ⟨_, fd, F, He.glo_ok X G (c.fact 1 (f := .glo "is_digit") rfl)⟩
theorem d_is_letter (X : K.In h) (G : h.Ns mainGlobals mg) (c : He.SaysD facts fns K) : Def K mg "is_letter" s_is_letter := by
  obtain ⟨fd, F⟩ := c.def_ 2 (d := dF "is_letter" 9) rfl
  exact ⟨_, fd, F, He.glo_ok X G (c.fact 2 (f := .glo "is_letter") rfl)⟩
theorem d_parted (X : K.In h) (G : h.Ns mainGlobals mg) (c : He.SaysD facts fns K) : Def K mg "parted" s_parted := by
  obtain ⟨fd, F⟩ := c.def_ 3 (d := dF "parted" 10) rfl
  exact ⟨_, fd, F, He.glo_ok X G (c.fact 3 (f := .glo "parted") rfl)⟩
theorem d_number_of (X : K.In h) (G : h.Ns mainGlobals mg) (c : He.SaysD facts fns K) : Def K mg "number_of" s_number_of := by
  obtain ⟨fd, F⟩ := c.def_ 4 (d := dF "number_of" 11) rfl
  exact ⟨_, fd, F, He.glo_ok X G (c.fact 4 (f := .glo "number_of") rfl)⟩
theorem d_term_of (X : K.In h) (G : h.Ns mainGlobals mg) (c : He.SaysD facts fns K) : Def K mg "term_of" s_term_of := by
  obtain ⟨fd, F⟩ := c.def_ 5 (d := dF "term_of" 12) rfl
  exact ⟨_, fd, F, He.glo_ok X G (c.fact 5 (f := .glo "term_of") rfl)⟩
theorem d_terms_in (X : K.In h) (G : h.Ns mainGlobals mg) (c : He.SaysD facts fns K) : Def K mg "terms_in" s_terms_in := by
  obtain ⟨fd, F⟩ := c.def_ 6 (d := dF "terms_in" 13) rfl
  exact ⟨_, fd, F, He.glo_ok X G (c.fact 6 (f := .glo "terms_in") rfl)⟩
theorem d_form_of (X : K.In h) (G : h.Ns mainGlobals mg) (c : He.SaysD facts fns K) : Def K mg "form_of" s_form_of := by
  obtain ⟨fd, F⟩ := c.def_ 7 (d := dF "form_of" 14) rfl
  exact ⟨_, fd, F, He.glo_ok X G (c.fact 7 (f := .glo "form_of") rfl)⟩
theorem d_value_of (X : K.In h) (G : h.Ns mainGlobals mg) (c : He.SaysD facts fns K) : Def K mg "value_of" s_value_of := by
  obtain ⟨fd, F⟩ := c.def_ 8 (d := dF "value_of" 15) rfl
  exact ⟨_, fd, F, He.glo_ok X G (c.fact 8 (f := .glo "value_of") rfl)⟩
theorem d_signed (X : K.In h) (G : h.Ns mainGlobals mg) (c : He.SaysD facts fns K) : Def K mg "signed" s_signed := by
  obtain ⟨fd, F⟩ := c.def_ 9 (d := dF "signed" 16) rfl
  exact ⟨_, fd, F, He.glo_ok X G (c.fact 9 (f := .glo "signed") rfl)⟩
theorem d_form_shown (X : K.In h) (G : h.Ns mainGlobals mg) (c : He.SaysD facts fns K) : Def K mg "form_shown" s_form_shown := by
  obtain ⟨fd, F⟩ := c.def_ 10 (d := dF "form_shown" 17) rfl
  exact ⟨_, fd, F, He.glo_ok X G (c.fact 10 (f := .glo "form_shown") rfl)⟩
theorem d_is_one (X : K.In h) (G : h.Ns mainGlobals mg) (c : He.SaysD facts fns K) : Def K mg "is_one" s_is_one := by
  obtain ⟨fd, F⟩ := c.def_ 11 (d := dF "is_one" 18) rfl
  exact ⟨_, fd, F, He.glo_ok X G (c.fact 11 (f := .glo "is_one") rfl)⟩
theorem d_form_in (X : K.In h) (G : h.Ns mainGlobals mg) (c : He.SaysD facts fns K) : Def K mg "form_in" s_form_in := by
  obtain ⟨fd, F⟩ := c.def_ 12 (d := dF "form_in" 36) rfl
  exact ⟨_, fd, F, He.glo_ok X G (c.fact 12 (f := .glo "form_in") rfl)⟩
theorem d_stitch_of (X : K.In h) (G : h.Ns mainGlobals mg) (c : He.SaysD facts fns K) : Def K mg "stitch_of" s_stitch_of := by
  obtain ⟨fd, F⟩ := c.def_ 13 (d := dF "stitch_of" 37) rfl
  exact ⟨_, fd, F, He.glo_ok X G (c.fact 13 (f := .glo "stitch_of") rfl)⟩
theorem d_times_at (X : K.In h) (G : h.Ns mainGlobals mg) (c : He.SaysD facts fns K) : Def K mg "times_at" s_times_at := by
  obtain ⟨fd, F⟩ := c.def_ 14 (d := dF "times_at" 38) rfl
  exact ⟨_, fd, F, He.glo_ok X G (c.fact 14 (f := .glo "times_at") rfl)⟩
theorem d_item_at (X : K.In h) (G : h.Ns mainGlobals mg) (c : He.SaysD facts fns K) : Def K mg "item_at" s_item_at := by
  obtain ⟨fd, F⟩ := c.def_ 15 (d := dF "item_at" 39) rfl
  exact ⟨_, fd, F, He.glo_ok X G (c.fact 15 (f := .glo "item_at") rfl)⟩
theorem d_items_at (X : K.In h) (G : h.Ns mainGlobals mg) (c : He.SaysD facts fns K) : Def K mg "items_at" s_items_at := by
  obtain ⟨fd, F⟩ := c.def_ 16 (d := dF "items_at" 40) rfl
  exact ⟨_, fd, F, He.glo_ok X G (c.fact 16 (f := .glo "items_at") rfl)⟩
theorem d_row_items (X : K.In h) (G : h.Ns mainGlobals mg) (c : He.SaysD facts fns K) : Def K mg "row_items" s_row_items := by
  obtain ⟨fd, F⟩ := c.def_ 17 (d := dF "row_items" 41) rfl
  exact ⟨_, fd, F, He.glo_ok X G (c.fact 17 (f := .glo "row_items") rfl)⟩
theorem d_number_between (X : K.In h) (G : h.Ns mainGlobals mg) (c : He.SaysD facts fns K) : Def K mg "number_between" s_number_between := by
  obtain ⟨fd, F⟩ := c.def_ 18 (d := dF "number_between" 42) rfl
  exact ⟨_, fd, F, He.glo_ok X G (c.fact 18 (f := .glo "number_between") rfl)⟩
theorem d_read_size (X : K.In h) (G : h.Ns mainGlobals mg) (c : He.SaysD facts fns K) : Def K mg "read_size" s_read_size := by
  obtain ⟨fd, F⟩ := c.def_ 19 (d := dF "read_size" 43) rfl
  exact ⟨_, fd, F, He.glo_ok X G (c.fact 19 (f := .glo "read_size") rfl)⟩
theorem d_read_cast (X : K.In h) (G : h.Ns mainGlobals mg) (c : He.SaysD facts fns K) : Def K mg "read_cast" s_read_cast := by
  obtain ⟨fd, F⟩ := c.def_ 20 (d := dF "read_cast" 44) rfl
  exact ⟨_, fd, F, He.glo_ok X G (c.fact 20 (f := .glo "read_cast") rfl)⟩
theorem d_is_name (X : K.In h) (G : h.Ns mainGlobals mg) (c : He.SaysD facts fns K) : Def K mg "is_name" s_is_name := by
  obtain ⟨fd, F⟩ := c.def_ 21 (d := dF "is_name" 45) rfl
  exact ⟨_, fd, F, He.glo_ok X G (c.fact 21 (f := .glo "is_name") rfl)⟩
theorem d_read_row (X : K.In h) (G : h.Ns mainGlobals mg) (c : He.SaysD facts fns K) : Def K mg "read_row" s_read_row := by
  obtain ⟨fd, F⟩ := c.def_ 22 (d := dF "read_row" 46) rfl
  exact ⟨_, fd, F, He.glo_ok X G (c.fact 22 (f := .glo "read_row") rfl)⟩
theorem d_begin_block (X : K.In h) (G : h.Ns mainGlobals mg) (c : He.SaysD facts fns K) : Def K mg "begin_block" s_begin_block := by
  obtain ⟨fd, F⟩ := c.def_ 23 (d := dF "begin_block" 47) rfl
  exact ⟨_, fd, F, He.glo_ok X G (c.fact 23 (f := .glo "begin_block") rfl)⟩
theorem d_end_block (X : K.In h) (G : h.Ns mainGlobals mg) (c : He.SaysD facts fns K) : Def K mg "end_block" s_end_block := by
  obtain ⟨fd, F⟩ := c.def_ 24 (d := dF "end_block" 48) rfl
  exact ⟨_, fd, F, He.glo_ok X G (c.fact 24 (f := .glo "end_block") rfl)⟩
theorem d_read_off (X : K.In h) (G : h.Ns mainGlobals mg) (c : He.SaysD facts fns K) : Def K mg "read_off" s_read_off := by
  obtain ⟨fd, F⟩ := c.def_ 25 (d := dF "read_off" 49) rfl
  exact ⟨_, fd, F, He.glo_ok X G (c.fact 25 (f := .glo "read_off") rfl)⟩
theorem d_read_part (X : K.In h) (G : h.Ns mainGlobals mg) (c : He.SaysD facts fns K) : Def K mg "read_part" s_read_part := by
  obtain ⟨fd, F⟩ := c.def_ 26 (d := dF "read_part" 50) rfl
  exact ⟨_, fd, F, He.glo_ok X G (c.fact 26 (f := .glo "read_part") rfl)⟩
theorem d_read_line (X : K.In h) (G : h.Ns mainGlobals mg) (c : He.SaysD facts fns K) : Def K mg "read_line" s_read_line := by
  obtain ⟨fd, F⟩ := c.def_ 27 (d := dF "read_line" 51) rfl
  exact ⟨_, fd, F, He.glo_ok X G (c.fact 27 (f := .glo "read_line") rfl)⟩
theorem d_line_read (X : K.In h) (G : h.Ns mainGlobals mg) (c : He.SaysD facts fns K) : Def K mg "line_read" s_line_read := by
  obtain ⟨fd, F⟩ := c.def_ 28 (d := dF "line_read" 52) rfl
  exact ⟨_, fd, F, He.glo_ok X G (c.fact 28 (f := .glo "line_read") rfl)⟩
theorem d_read_lines (X : K.In h) (G : h.Ns mainGlobals mg) (c : He.SaysD facts fns K) : Def K mg "read_lines" s_read_lines := by
  obtain ⟨fd, F⟩ := c.def_ 29 (d := dF "read_lines" 53) rfl
  exact ⟨_, fd, F, He.glo_ok X G (c.fact 29 (f := .glo "read_lines") rfl)⟩
theorem d_read_pattern (X : K.In h) (G : h.Ns mainGlobals mg) (c : He.SaysD facts fns K) : Def K mg "read_pattern" s_read_pattern := by
  obtain ⟨fd, F⟩ := c.def_ 30 (d := dF "read_pattern" 54) rfl
  exact ⟨_, fd, F, He.glo_ok X G (c.fact 30 (f := .glo "read_pattern") rfl)⟩
theorem d_is_size (X : K.In h) (G : h.Ns mainGlobals mg) (c : He.SaysD facts fns K) : Def K mg "is_size" s_is_size := by
  obtain ⟨fd, F⟩ := c.def_ 31 (d := dF "is_size" 55) rfl
  exact ⟨_, fd, F, He.glo_ok X G (c.fact 31 (f := .glo "is_size") rfl)⟩
theorem d_begin (X : K.In h) (G : h.Ns mainGlobals mg) (c : He.SaysD facts fns K) : Def K mg "begin" s_begin := by
  obtain ⟨fd, F⟩ := c.def_ 32 (d := dF "begin" 63) rfl
  exact ⟨_, fd, F, He.glo_ok X G (c.fact 32 (f := .glo "begin") rfl)⟩
theorem d_times_of (X : K.In h) (G : h.Ns mainGlobals mg) (c : He.SaysD facts fns K) : Def K mg "times_of" s_times_of := by
  obtain ⟨fd, F⟩ := c.def_ 33 (d := dF "times_of" 64) rfl
  exact ⟨_, fd, F, He.glo_ok X G (c.fact 33 (f := .glo "times_of") rfl)⟩
theorem d_knit_stitch (X : K.In h) (G : h.Ns mainGlobals mg) (c : He.SaysD facts fns K) : Def K mg "knit_stitch" s_knit_stitch := by
  obtain ⟨fd, F⟩ := c.def_ 34 (d := dF "knit_stitch" 65) rfl
  exact ⟨_, fd, F, He.glo_ok X G (c.fact 34 (f := .glo "knit_stitch") rfl)⟩
theorem d_knit_fill (X : K.In h) (G : h.Ns mainGlobals mg) (c : He.SaysD facts fns K) : Def K mg "knit_fill" s_knit_fill := by
  obtain ⟨fd, F⟩ := c.def_ 35 (d := dF "knit_fill" 66) rfl
  exact ⟨_, fd, F, He.glo_ok X G (c.fact 35 (f := .glo "knit_fill") rfl)⟩
theorem d_knit_items (X : K.In h) (G : h.Ns mainGlobals mg) (c : He.SaysD facts fns K) : Def K mg "knit_items" s_knit_items := by
  obtain ⟨fd, F⟩ := c.def_ 36 (d := dF "knit_items" 67) rfl
  exact ⟨_, fd, F, He.glo_ok X G (c.fact 36 (f := .glo "knit_items") rfl)⟩
theorem d_knit_row (X : K.In h) (G : h.Ns mainGlobals mg) (c : He.SaysD facts fns K) : Def K mg "knit_row" s_knit_row := by
  obtain ⟨fd, F⟩ := c.def_ 37 (d := dF "knit_row" 68) rfl
  exact ⟨_, fd, F, He.glo_ok X G (c.fact 37 (f := .glo "knit_row") rfl)⟩
theorem d_knit_parts (X : K.In h) (G : h.Ns mainGlobals mg) (c : He.SaysD facts fns K) : Def K mg "knit_parts" s_knit_parts := by
  obtain ⟨fd, F⟩ := c.def_ 38 (d := dF "knit_parts" 69) rfl
  exact ⟨_, fd, F, He.glo_ok X G (c.fact 38 (f := .glo "knit_parts") rfl)⟩
theorem d_knit_all (X : K.In h) (G : h.Ns mainGlobals mg) (c : He.SaysD facts fns K) : Def K mg "knit_all" s_knit_all := by
  obtain ⟨fd, F⟩ := c.def_ 39 (d := dF "knit_all" 70) rfl
  exact ⟨_, fd, F, He.glo_ok X G (c.fact 39 (f := .glo "knit_all") rfl)⟩
theorem d_knit (X : K.In h) (G : h.Ns mainGlobals mg) (c : He.SaysD facts fns K) : Def K mg "knit" s_knit := by
  obtain ⟨fd, F⟩ := c.def_ 40 (d := dF "knit" 71) rfl
  exact ⟨_, fd, F, He.glo_ok X G (c.fact 40 (f := .glo "knit") rfl)⟩
theorem d_joined (X : K.In h) (G : h.Ns mainGlobals mg) (c : He.SaysD facts fns K) : Def K mg "joined" s_joined := by
  obtain ⟨fd, F⟩ := c.def_ 41 (d := dF "joined" 73) rfl
  exact ⟨_, fd, F, He.glo_ok X G (c.fact 41 (f := .glo "joined") rfl)⟩
theorem d_line_of (X : K.In h) (G : h.Ns mainGlobals mg) (c : He.SaysD facts fns K) : Def K mg "line_of" s_line_of := by
  obtain ⟨fd, F⟩ := c.def_ 42 (d := dF "line_of" 74) rfl
  exact ⟨_, fd, F, He.glo_ok X G (c.fact 42 (f := .glo "line_of") rfl)⟩
theorem d_times_shown (X : K.In h) (G : h.Ns mainGlobals mg) (c : He.SaysD facts fns K) : Def K mg "times_shown" s_times_shown := by
  obtain ⟨fd, F⟩ := c.def_ 43 (d := dF "times_shown" 75) rfl
  exact ⟨_, fd, F, He.glo_ok X G (c.fact 43 (f := .glo "times_shown") rfl)⟩
theorem d_item_words (X : K.In h) (G : h.Ns mainGlobals mg) (c : He.SaysD facts fns K) : Def K mg "item_words" s_item_words := by
  obtain ⟨fd, F⟩ := c.def_ 44 (d := dF "item_words" 76) rfl
  exact ⟨_, fd, F, He.glo_ok X G (c.fact 44 (f := .glo "item_words") rfl)⟩
theorem d_row_line (X : K.In h) (G : h.Ns mainGlobals mg) (c : He.SaysD facts fns K) : Def K mg "row_line" s_row_line := by
  obtain ⟨fd, F⟩ := c.def_ 45 (d := dF "row_line" 77) rfl
  exact ⟨_, fd, F, He.glo_ok X G (c.fact 45 (f := .glo "row_line") rfl)⟩
theorem d_letter_line (X : K.In h) (G : h.Ns mainGlobals mg) (c : He.SaysD facts fns K) : Def K mg "letter_line" s_letter_line := by
  obtain ⟨fd, F⟩ := c.def_ 46 (d := dF "letter_line" 78) rfl
  exact ⟨_, fd, F, He.glo_ok X G (c.fact 46 (f := .glo "letter_line") rfl)⟩
theorem d_parts_shown (X : K.In h) (G : h.Ns mainGlobals mg) (c : He.SaysD facts fns K) : Def K mg "parts_shown" s_parts_shown := by
  obtain ⟨fd, F⟩ := c.def_ 47 (d := dF "parts_shown" 79) rfl
  exact ⟨_, fd, F, He.glo_ok X G (c.fact 47 (f := .glo "parts_shown") rfl)⟩
theorem d_pattern_shown (X : K.In h) (G : h.Ns mainGlobals mg) (c : He.SaysD facts fns K) : Def K mg "pattern_shown" s_pattern_shown := by
  obtain ⟨fd, F⟩ := c.def_ 48 (d := dF "pattern_shown" 80) rfl
  exact ⟨_, fd, F, He.glo_ok X G (c.fact 48 (f := .glo "pattern_shown") rfl)⟩
theorem d_count_words (X : K.In h) (G : h.Ns mainGlobals mg) (c : He.SaysD facts fns K) : Def K mg "count_words" s_count_words := by
  obtain ⟨fd, F⟩ := c.def_ 49 (d := dF "count_words" 81) rfl
  exact ⟨_, fd, F, He.glo_ok X G (c.fact 49 (f := .glo "count_words") rfl)⟩
theorem d_runs_of (X : K.In h) (G : h.Ns mainGlobals mg) (c : He.SaysD facts fns K) : Def K mg "runs_of" s_runs_of := by
  obtain ⟨fd, F⟩ := c.def_ 50 (d := dF "runs_of" 82) rfl
  exact ⟨_, fd, F, He.glo_ok X G (c.fact 50 (f := .glo "runs_of") rfl)⟩
theorem d_flat_row (X : K.In h) (G : h.Ns mainGlobals mg) (c : He.SaysD facts fns K) : Def K mg "flat_row" s_flat_row := by
  obtain ⟨fd, F⟩ := c.def_ 51 (d := dF "flat_row" 83) rfl
  exact ⟨_, fd, F, He.glo_ok X G (c.fact 51 (f := .glo "flat_row") rfl)⟩
theorem d_flat (X : K.In h) (G : h.Ns mainGlobals mg) (c : He.SaysD facts fns K) : Def K mg "flat" s_flat := by
  obtain ⟨fd, F⟩ := c.def_ 52 (d := dF "flat" 84) rfl
  exact ⟨_, fd, F, He.glo_ok X G (c.fact 52 (f := .glo "flat") rfl)⟩
theorem d_calls_of (X : K.In h) (G : h.Ns mainGlobals mg) (c : He.SaysD facts fns K) : Def K mg "calls_of" s_calls_of := by
  obtain ⟨fd, F⟩ := c.def_ 53 (d := dF "calls_of" 90) rfl
  exact ⟨_, fd, F, He.glo_ok X G (c.fact 53 (f := .glo "calls_of") rfl)⟩
theorem d_letters_in (X : K.In h) (G : h.Ns mainGlobals mg) (c : He.SaysD facts fns K) : Def K mg "letters_in" s_letters_in := by
  obtain ⟨fd, F⟩ := c.def_ 54 (d := dF "letters_in" 91) rfl
  exact ⟨_, fd, F, He.glo_ok X G (c.fact 54 (f := .glo "letters_in") rfl)⟩
theorem d_is_own_size (X : K.In h) (G : h.Ns mainGlobals mg) (c : He.SaysD facts fns K) : Def K mg "is_own_size" s_is_own_size := by
  obtain ⟨fd, F⟩ := c.def_ 55 (d := dF "is_own_size" 92) rfl
  exact ⟨_, fd, F, He.glo_ok X G (c.fact 55 (f := .glo "is_own_size") rfl)⟩
theorem d_put (X : K.In h) (G : h.Ns mainGlobals mg) (c : He.SaysD facts fns K) : Def K mg "put" s_put := by
  obtain ⟨fd, F⟩ := c.def_ 56 (d := dF "put" 93) rfl
  exact ⟨_, fd, F, He.glo_ok X G (c.fact 56 (f := .glo "put") rfl)⟩
theorem d_all_stitches (X : K.In h) (G : h.Ns mainGlobals mg) (c : He.SaysD facts fns K) : Def K mg "all_stitches" s_all_stitches := by
  obtain ⟨fd, F⟩ := c.def_ 57 (d := dF "all_stitches" 94) rfl
  exact ⟨_, fd, F, He.glo_ok X G (c.fact 57 (f := .glo "all_stitches") rfl)⟩
theorem d_row_told (X : K.In h) (G : h.Ns mainGlobals mg) (c : He.SaysD facts fns K) : Def K mg "row_told" s_row_told := by
  obtain ⟨fd, F⟩ := c.def_ 58 (d := dF "row_told" 95) rfl
  exact ⟨_, fd, F, He.glo_ok X G (c.fact 58 (f := .glo "row_told") rfl)⟩
theorem d_told_of (X : K.In h) (G : h.Ns mainGlobals mg) (c : He.SaysD facts fns K) : Def K mg "told_of" s_told_of := by
  obtain ⟨fd, F⟩ := c.def_ 59 (d := dF "told_of" 96) rfl
  exact ⟨_, fd, F, He.glo_ok X G (c.fact 59 (f := .glo "told_of") rfl)⟩
theorem d_of_size (X : K.In h) (G : h.Ns mainGlobals mg) (c : He.SaysD facts fns K) : Def K mg "of_size" s_of_size := by
  obtain ⟨fd, F⟩ := c.def_ 60 (d := dF "of_size" 97) rfl
  exact ⟨_, fd, F, He.glo_ok X G (c.fact 60 (f := .glo "of_size") rfl)⟩
theorem d_form_told (X : K.In h) (G : h.Ns mainGlobals mg) (c : He.SaysD facts fns K) : Def K mg "form_told" s_form_told := by
  obtain ⟨fd, F⟩ := c.def_ 61 (d := dF "form_told" 98) rfl
  exact ⟨_, fd, F, He.glo_ok X G (c.fact 61 (f := .glo "form_told") rfl)⟩
theorem d_value_told (X : K.In h) (G : h.Ns mainGlobals mg) (c : He.SaysD facts fns K) : Def K mg "value_told" s_value_told := by
  obtain ⟨fd, F⟩ := c.def_ 62 (d := dF "value_told" 99) rfl
  exact ⟨_, fd, F, He.glo_ok X G (c.fact 62 (f := .glo "value_told") rfl)⟩
theorem d_found (X : K.In h) (G : h.Ns mainGlobals mg) (c : He.SaysD facts fns K) : Def K mg "found" s_found := by
  obtain ⟨fd, F⟩ := c.def_ 63 (d := dF "found" 100) rfl
  exact ⟨_, fd, F, He.glo_ok X G (c.fact 63 (f := .glo "found") rfl)⟩
theorem d_tried (X : K.In h) (G : h.Ns mainGlobals mg) (c : He.SaysD facts fns K) : Def K mg "tried" s_tried := by
  obtain ⟨fd, F⟩ := c.def_ 64 (d := dF "tried" 101) rfl
  exact ⟨_, fd, F, He.glo_ok X G (c.fact 64 (f := .glo "tried") rfl)⟩
theorem d_sizes_told (X : K.In h) (G : h.Ns mainGlobals mg) (c : He.SaysD facts fns K) : Def K mg "sizes_told" s_sizes_told := by
  obtain ⟨fd, F⟩ := c.def_ 65 (d := dF "sizes_told" 102) rfl
  exact ⟨_, fd, F, He.glo_ok X G (c.fact 65 (f := .glo "sizes_told") rfl)⟩
theorem d_of_pattern (X : K.In h) (G : h.Ns mainGlobals mg) (c : He.SaysD facts fns K) : Def K mg "of_pattern" s_of_pattern := by
  obtain ⟨fd, F⟩ := c.def_ 66 (d := dF "of_pattern" 103) rfl
  exact ⟨_, fd, F, He.glo_ok X G (c.fact 66 (f := .glo "of_pattern") rfl)⟩
theorem d_done (X : K.In h) (G : h.Ns mainGlobals mg) (c : He.SaysD facts fns K) : Def K mg "done" s_done := by
  obtain ⟨fd, F⟩ := c.def_ 67 (d := dF "done" 104) rfl
  exact ⟨_, fd, F, He.glo_ok X G (c.fact 67 (f := .glo "done") rfl)⟩
theorem d_answers (X : K.In h) (G : h.Ns mainGlobals mg) (c : He.SaysD facts fns K) : Def K mg "answers" s_answers := by
  obtain ⟨fd, F⟩ := c.def_ 68 (d := dF "answers" 105) rfl
  exact ⟨_, fd, F, He.glo_ok X G (c.fact 68 (f := .glo "answers") rfl)⟩
theorem d_Wrong_init (c : He.SaysD facts fns K) : DefM K (He.ga K "Wrong") "__init__" "Wrong.__init__" s_Wrong_init := by
  obtain ⟨fd, F⟩ := c.def_ 69 (d := dM "Wrong" "__init__" 34 0) rfl
  have e : (("Wrong" : Str) ++ ("." ++ "__init__")) = "Wrong.__init__" := by decide +kernel
  have e2 : (dM "Wrong" "__init__" 34 0).qual = "Wrong.__init__" := by decide +kernel
  rw [e2] at F
  exact ⟨fd, F⟩
theorem d_Pattern_init (c : He.SaysD facts fns K) : DefM K (He.ga K "Pattern") "__init__" "Pattern.__init__" s_Pattern_init := by
  obtain ⟨fd, F⟩ := c.def_ 70 (d := dM "Pattern" "__init__" 35 0) rfl
  have e : (("Pattern" : Str) ++ ("." ++ "__init__")) = "Pattern.__init__" := by decide +kernel
  have e2 : (dM "Pattern" "__init__" 35 0).qual = "Pattern.__init__" := by decide +kernel
  rw [e2] at F
  exact ⟨fd, F⟩
theorem d_Pattern_signs (c : He.SaysD facts fns K) : DefM K (He.ga K "Pattern") "signs" "Pattern.signs" s_Pattern_signs := by
  obtain ⟨fd, F⟩ := c.def_ 71 (d := dM "Pattern" "signs" 35 1) rfl
  have e : (("Pattern" : Str) ++ ("." ++ "signs")) = "Pattern.signs" := by decide +kernel
  have e2 : (dM "Pattern" "signs" 35 1).qual = "Pattern.signs" := by decide +kernel
  rw [e2] at F
  exact ⟨fd, F⟩
theorem d_Gone_init (c : He.SaysD facts fns K) : DefM K (He.ga K "Gone") "__init__" "Gone.__init__" s_Gone_init := by
  obtain ⟨fd, F⟩ := c.def_ 72 (d := dM "Gone" "__init__" 61 0) rfl
  have e : (("Gone" : Str) ++ ("." ++ "__init__")) = "Gone.__init__" := by decide +kernel
  have e2 : (dM "Gone" "__init__" 61 0).qual = "Gone.__init__" := by decide +kernel
  rw [e2] at F
  exact ⟨fd, F⟩
theorem d_Work_init (c : He.SaysD facts fns K) : DefM K (He.ga K "Work") "__init__" "Work.__init__" s_Work_init := by
  obtain ⟨fd, F⟩ := c.def_ 73 (d := dM "Work" "__init__" 62 0) rfl
  have e : (("Work" : Str) ++ ("." ++ "__init__")) = "Work.__init__" := by decide +kernel
  have e2 : (dM "Work" "__init__" 62 0).qual = "Work.__init__" := by decide +kernel
  rw [e2] at F
  exact ⟨fd, F⟩
theorem all_calls {f : Addr} {fd : FuncData} (F : FnP K "answers" "answers" s_answers f fd) (X : K.In h) (G : h.Ns mainGlobals mg) (c : He.SaysD facts fns K) (ex : more K = true) : FnOk P w K mg base (L2.CX P w) 23 f fd ["calls"] (spAnswers K) := by
  have T := txt_of X G c ex
  have RW : RaiW P w K mg base := ⟨ok_Wrong_init T (d_Wrong_init c), T.xWrong, T.gWrong⟩
  have RG : RaiG P w K mg base := ⟨ok_Gone_init T (d_Gone_init c), T.xGone, T.gGone⟩
  have c_signs_of : Cal P w K mg base CX0 1 "signs_of" ["word"] spSigns := ok_signs_of T (d_signs_of X G c)
  have c_is_digit : Cal P w K mg base CX0 1 "is_digit" ["byte"] (spByte Vbktaa.digit) := ok_is_digit T (d_is_digit X G c)
  have c_is_letter : Cal P w K mg base CX0 1 "is_letter" ["byte"] (spByte Vbktaa.small) := ok_is_letter T (d_is_letter X G c)
  have c_parted : Cal P w K mg base CX0 1 "parted" ["row", "by"] (spParted K) := ok_parted T (d_parted X G c)
  have c_number_of : Cal P w K mg base CX0 2 "number_of" ["word"] (spNumber K) := ok_number_of T (d_number_of X G c) c_is_digit
  have c_term_of : Cal P w K mg base CX0 3 "term_of" ["word", "letters"] (spTerm K) := ok_term_of T (d_term_of X G c) c_number_of
  have c_terms_in : Cal P w K mg base CX0 1 "terms_in" ["word"] (spTerms K) := ok_terms_in T (d_terms_in X G c)
  have c_form_of : Cal P w K mg base CX0 4 "form_of" ["word", "letters"] (spForm K) := ok_form_of T (d_form_of X G c) c_terms_in c_term_of
  have c_value_of : Cal P w K mg base CX0 1 "value_of" ["form", "size"] (spValue K) := ok_value_of T (d_value_of X G c)
  have c_signed : Cal P w K mg base CX0 1 "signed" ["number", "first"] spSigned := ok_signed T (d_signed X G c)
  have c_is_one : Cal P w K mg base CX0 1 "is_one" ["form"] (spOne K) := ok_is_one T (d_is_one X G c)
  have c_form_shown : Cal P w K mg base CX0 2 "form_shown" ["form", "letters"] (spFormShown K) := ok_form_shown T (d_form_shown X G c) c_signs_of c_signed
  have m_signs : CalM P w K mg base CX0 1 (He.ma K (He.ga K "Pattern") "signs") ["self"] (spPSigns K) := ok_Pattern_signs T (d_Pattern_signs c)
  have c_form_in : Cal P w K mg base (L2.CX P w) 5 "form_in" ["pattern", "word"] (spFormIn K) := ok_form_in T RW (d_form_in X G c) c_form_of m_signs
  have c_stitch_of : Cal P w K mg base CX0 2 "stitch_of" ["word"] (spStitch K) := ok_stitch_of T (d_stitch_of X G c) c_signs_of
  have c_times_at : Cal P w K mg base CX0 5 "times_at" ["pattern", "words", "at"] (spTimes K) := ok_times_at T (d_times_at X G c) c_form_of m_signs
  have c_items_at : Cal P w K mg base (L2.CX P w) 13 "items_at" ["pattern", "words", "first", "deep", "last"] (spItems K 3) := ok_items T RW (d_item_at X G c) (d_items_at X G c) c_signs_of c_stitch_of c_times_at c_form_in
  have c_number_between : Cal P w K mg base (L2.CX P w) 3 "number_between" ["word", "least", "most"] (spBetween K) := ok_number_between T RW (d_number_between X G c) c_number_of
  have c_is_name : Cal P w K mg base CX0 2 "is_name" ["word"] (spName K) := ok_is_name T (d_is_name X G c) c_is_digit c_is_letter
  have c_row_items : Cal P w K mg base (L2.CX P w) 14 "row_items" ["pattern", "words"] (spRowItems K) := ok_row_items T (d_row_items X G c) c_items_at
  have c_read_size : Cal P w K mg base (L2.CX P w) 4 "read_size" ["pattern", "words"] (spReadSize K) := ok_read_size T RW (d_read_size X G c) c_is_letter c_number_between m_signs
  have c_read_cast : Cal P w K mg base (L2.CX P w) 6 "read_cast" ["pattern", "words"] (spReadCast K) := ok_read_cast T RW (d_read_cast X G c) c_signs_of c_form_in
  have c_read_off : Cal P w K mg base (L2.CX P w) 3 "read_off" ["within"] (spReadOff K) := ok_read_off T RW (d_read_off X G c)
  have c_begin_block : Cal P w K mg base (L2.CX P w) 6 "begin_block" ["pattern", "words", "within", "line"] (spBegin K) := ok_begin_block T RW (d_begin_block X G c) c_form_in
  have c_end_block : Cal P w K mg base (L2.CX P w) 3 "end_block" ["within"] (spEnd K) := ok_end_block T RW (d_end_block X G c)
  have c_read_row : Cal P w K mg base (L2.CX P w) 15 "read_row" ["pattern", "words", "within"] (spReadRow K) := ok_read_row T RW (d_read_row X G c) c_is_name c_row_items
  have c_read_part : Cal P w K mg base (L2.CX P w) 16 "read_part" ["pattern", "words", "within", "line"] (spPart K) := ok_read_part T RW (d_read_part X G c) c_signs_of c_read_row c_begin_block c_end_block c_read_off
  have c_read_line : Cal P w K mg base (L2.CX P w) 17 "read_line" ["pattern", "words", "within", "line"] (spLine K) := ok_read_line T (d_read_line X G c) c_signs_of c_read_part c_read_size c_read_cast
  have c_line_read : Cal P w K mg base (L2.CX P w) 18 "line_read" ["pattern", "words", "within", "number"] (spLineRead K) := ok_line_read T (d_line_read X G c) c_read_line
  have m_Pattern_init : CalM P w K mg base CX0 1 (He.ma K (He.ga K "Pattern") "__init__") ["self"] (spPInit K) := ok_Pattern_init T (d_Pattern_init c)
  have c_read_lines : Cal P w K mg base (L2.CX P w) 19 "read_lines" ["pattern", "lines"] (spLines K) := ok_read_lines T RW (d_read_lines X G c) c_parted c_line_read
  have c_read_pattern : Cal P w K mg base (L2.CX P w) 20 "read_pattern" ["text"] (spReadP K) := ok_read_pattern T RW (d_read_pattern X G c) c_parted m_Pattern_init c_read_lines
  have c_is_size : Cal P w K mg base CX0 1 "is_size" ["pattern", "size"] (spIsSize K) := ok_is_size T (d_is_size X G c)
  have c_begin : Cal P w K mg base (L2.CX P w) 3 "begin" ["work"] (spBeg K) := ok_begin T RG (d_begin X G c)
  have c_times_of : Cal P w K mg base (L2.CX P w) 3 "times_of" ["work", "form"] (spTimesOf K) := ok_times_of T RG (d_times_of X G c) c_value_of
  have c_knit_stitch : Cal P w K mg base (L2.CX P w) 4 "knit_stitch" ["work", "stitch", "form"] (spKnitS K) := ok_knit_stitch T RG (d_knit_stitch X G c) c_times_of
  have c_knit_items : Cal P w K mg base (L2.CX P w) 12 "knit_items" ["work", "items"] (spKnitI K 3) := ok_knits T RG (d_knit_items X G c) (d_knit_fill X G c) c_begin c_times_of c_knit_stitch c_value_of
  have c_knit_row : Cal P w K mg base (L2.CX P w) 13 "knit_row" ["work", "number", "items"] (spKnitRow K) := ok_knit_row T RG (d_knit_row X G c) c_begin c_knit_items
  have c_knit_parts : Cal P w K mg base (L2.CX P w) 17 "knit_parts" ["work", "pattern", "parts"] (spKnitP K 3) := ok_parts T (d_knit_parts X G c) c_begin c_times_of c_knit_row
  have c_knit_all : Cal P w K mg base (L2.CX P w) 18 "knit_all" ["work", "pattern"] (spKnitAll K) := ok_knit_all T RG (d_knit_all X G c) c_value_of c_knit_parts
  have m_Work_init : CalM P w K mg base CX0 1 (He.ma K (He.ga K "Work") "__init__") ["self", "size"] (spWInit K) := ok_Work_init T (d_Work_init c)
  have c_knit : Cal P w K mg base (L2.CX P w) 19 "knit" ["pattern", "size"] (spKnit K) := ok_knit T (d_knit X G c) m_Work_init c_knit_all
  have c_joined : Cal P w K mg base CX0 1 "joined" ["words"] spJoined := ok_joined T (d_joined X G c)
  have c_line_of : Cal P w K mg base CX0 2 "line_of" ["words"] spLineOf := ok_line_of T (d_line_of X G c) c_joined
  have c_times_shown : Cal P w K mg base CX0 3 "times_shown" ["form", "letters"] (spTimesShown K) := ok_times_shown T (d_times_shown X G c) c_is_one c_form_shown
  have c_item_words : Cal P w K mg base CX0 7 "item_words" ["item", "letters"] (spItemW K 3) := ok_words T (d_item_words X G c) c_signs_of c_times_shown c_form_shown
  have c_row_line : Cal P w K mg base CX0 8 "row_line" ["row", "letters"] (spRowLine K) := ok_row_line T (d_row_line X G c) c_signs_of c_item_words c_line_of
  have c_letter_line : Cal P w K mg base CX0 3 "letter_line" ["letter"] (spLetterLine K) := ok_letter_line T (d_letter_line X G c) c_signs_of c_line_of
  have c_parts_shown : Cal P w K mg base CX0 12 "parts_shown" ["pattern", "parts"] (spPartsShown K 3) := ok_parts_showns T (d_parts_shown X G c) c_signs_of c_line_of c_form_shown c_row_line m_signs
  have c_pattern_shown : Cal P w K mg base CX0 13 "pattern_shown" ["pattern"] (spPatternShown K) := ok_pattern_shown T (d_pattern_shown X G c) c_signs_of c_line_of c_form_shown c_letter_line m_signs c_parts_shown
  have c_count_words : Cal P w K mg base CX0 1 "count_words" ["text"] spCountWords := ok_count_words T (d_count_words X G c)
  have c_runs_of : Cal P w K mg base CX0 1 "runs_of" ["stitches"] spRuns := ok_runs_of T (d_runs_of X G c)
  have c_flat_row : Cal P w K mg base CX0 3 "flat_row" ["number", "stitches"] spFlatRow := ok_flat_row T (d_flat_row X G c) c_signs_of c_line_of c_runs_of
  have c_flat : Cal P w K mg base CX0 4 "flat" ["cast", "done"] spFlat := ok_flat T (d_flat X G c) c_signs_of c_line_of c_flat_row
  have c_all_stitches : Cal P w K mg base CX0 1 "all_stitches" ["work"] (spAllS K) := ok_all_stitches T (d_all_stitches X G c)
  have c_row_told : Cal P w K mg base CX0 1 "row_told" ["work", "at"] (spRowTold K) := ok_row_told T (d_row_told X G c)
  have c_told_of : Cal P w K mg base CX0 5 "told_of" ["work", "number", "numbers"] (spToldOf K) := ok_told_of T (d_told_of X G c) c_all_stitches c_row_told c_flat
  have c_letters_in : Cal P w K mg base CX0 2 "letters_in" ["pattern"] (spLettersIn K) := ok_letters_in T (d_letters_in X G c) m_signs
  have c_is_own_size : Cal P w K mg base CX0 2 "is_own_size" ["pattern", "size"] (spIsOwn K) := ok_is_own_size T (d_is_own_size X G c) c_is_size
  have c_put : Cal P w K mg base (L2.CX P w) 21 "put" ["pattern", "text"] (spPut K) := ok_put T (d_put X G c) c_read_pattern
  have c_form_told : Cal P w K mg base CX0 5 "form_told" ["pattern", "word"] (spFormTold K) := ok_form_told T (d_form_told X G c) c_letters_in c_form_of c_form_shown
  have c_value_told : Cal P w K mg base CX0 5 "value_told" ["pattern", "word", "size"] (spValueTold K) := ok_value_told T (d_value_told X G c) c_letters_in c_form_of c_value_of c_is_own_size
  have c_found : Cal P w K mg base CX0 1 "found" ["pattern", "word"] (spFound K) := ok_found T (d_found X G c)
  have c_sizes_told : Cal P w K mg base CX0 1 "sizes_told" ["pattern"] (spSizesTold K) := ok_sizes_told T (d_sizes_told X G c)
  have c_of_pattern : Cal P w K mg base CX0 14 "of_pattern" ["pattern", "number"] (spOfPattern K) := ok_of_pattern T (d_of_pattern X G c) c_pattern_shown c_count_words c_sizes_told
  have c_of_size : Cal P w K mg base (L2.CX P w) 20 "of_size" ["pattern", "number", "numbers", "size"] (spOfSize K) := ok_of_size T (d_of_size X G c) c_is_size c_knit c_told_of
  have c_tried : Cal P w K mg base (L2.CX P w) 21 "tried" ["text", "size"] (spTried K) := ok_tried T (d_tried X G c) c_is_size c_knit c_read_pattern
  have c_calls_of : Cal P w K mg base CX0 1 "calls_of" ["calls"] (spCalls K) := ok_calls_of T (d_calls_of X G c)
  have c_done : Cal P w K mg base (L2.CX P w) 22 "done" ["pattern", "number", "numbers", "lists"] (spDone K) := ok_done T (d_done X G c) c_of_size c_form_told c_value_told c_found c_tried c_of_pattern
  exact ok_answers T F c_calls_of c_put c_done
end
end Kn
namespace Kn
open PySem PySem.Spec PyProof.Rows L2
open PySem.W (Codec)
/-- a part of the heap that is not told ahead, chosen first -/
theorem walk_any {r : PySem.W.OpenSpec} {q : Program} {loose : List Str} {XP : (Str → Option Value) → Heap → Prop} {YP : PySem.W.Frag → World → Heap → Prop} {d : DefRec} {kwd : List (Str × Expr)} {run : Value → List Value → Sem Value}
    (h : ∀ K, PySem.W.WalkOS q loose XP (YP K) r d kwd run) : PySem.W.WalkOS q loose XP (fun w hp => ∃ K, YP K w hp) r d kwd run :=
  fun w s0 s1 mg mb G ⟨K, Y⟩ => h K w s0 s1 mg mb G Y
/-- whatever is asked is answered as the specification says -/
theorem said {K : PySem.W.Frag} {H : Hp} {xs : List V} {a : Codec.denoteAll R.args} (hask : Codec.app R.args R.asked a = true) (hx : DwAll K H xs (Codec.encAll R.args a)) :
    spAnswers K xs H (fun v H' => Dw K H' v (R.ret.enc (Codec.app R.args R.f a))) fun _ _ _ => False := by
  cases hx with
  | cons h1 h2 =>
    cases h2
    cases h1 with
    | lst hs ha =>
      have e := L2.ints_dw a.1 _ ha
      subst e
      obtain ⟨raw, p1, p2, p3, p4, p5⟩ := asked_is (l := a.1) hask
      refine ⟨_, raw, rfl, by rw [← p1]; exact hs, p2, p3, p4, fun H' p _ _ hp => ?_⟩
      rw [p5] at hp
      exact .lst (L2.SqL.of hp) (L2.dw_ints _)
/-- the def that is asked, whatever the top has left -/
theorem ans_of {P : Program} {w : World} {K : PySem.W.Frag} {h : Heap} {mg : Str → Option Value} {fa : Addr} (X : K.In h) (G : h.Ns mainGlobals mg) (hfa : mg ("answers" : Str) = some (.ref fa)) (c : He.SaysD facts fns K) (ex : more K = true) :
    ∃ fd : FuncData, (∀ (s : Shared) (us : List Value), us.length = (["calls"] : List Str).length → BindsTo s fd ⟨us, []⟩ ((["calls"] : List Str).zip us)) ∧ ∀ base : Heap, K.In base → base.Ns mainGlobals mg → FnOk P w K mg base (L2.CX P w) 23 fa fd ["calls"] (spAnswers K) := by
  obtain ⟨fd, F⟩ := c.def_ 68 (d := dF "answers" 105) rfl
  have e := hfa.symm.trans (He.glo_ok X G (c.fact 68 (f := .glo "answers") rfl))
  cases e
  have b := FunD.bindsA (ps := ["calls"]) F fun _ _ _ _ _ _ us hl => match us, hl with | [_], _ => rfl
  exact ⟨fd, fun s us hu => b s us hu, fun base _ _ => all_calls F X G c ex⟩
end Kn
open PySem PySem.W PyProof.Rows
theorem PySem.Challenge.cw_knittexts_s01_answers_holds : PySem.Challenge.rw_knittexts_s01_answers.Holds := by
  refine HeadRun.head_spec (r := Kn.R) (q := Kn.qv) (H := Kn.hk) (ob := Kn.ob) (M := 7200) (loose := Kn.loose) (d := Kn.dAns) (kwd := []) Kn.ob_eq Kn.h_open Kn.h_fence Kn.runAll Kn.h_def Kn.h_the Kn.h_kw (fun as h => os_shapes as h) Kn.h_well Kn.h_ok Kn.h_bare Kn.pre_one ?_
  refine Kn.walk_any (YP := fun K _ h => K.In h ∧ He.SaysD Kn.facts Kn.fns K ∧ Kn.more K = true) fun K => ?_
  refine L2.walk_spec (r := Kn.R) (k := 23) (K := fun _ => K) (CX := fun w => L2.CX Kn.R.prog w) (ps := ["calls"]) (sp := fun _ => Kn.spAnswers K) Kn.h_well Kn.h_dfl rfl Kn.h_room (fun w h Y => Y.1) ?F ?S ?C
  case F =>
    intro w mg fa h Y KX G hmg0
    have hmg : mg ("answers" : PySem.Str) = some (.ref fa) := by
      rw [← Kn.h_name]
      exact hmg0
    exact Kn.ans_of KX G hmg Y.2.1 Y.2.2
  case S => exact fun w H xs a hO hwi hask hx => Kn.said hask hx
  case C => exact fun w H s e s2 ⟨_, _, _, _, _, _, _, _, _, _, _, _, z⟩ => z
