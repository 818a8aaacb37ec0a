import PyProof.Rows.All
import Wide.All
import OpenK.AllK
import Wide.FinOn
import KE.KStateDown
import Lean
import HandS.Base
import HandS.Call
import HandS.Ends
import HandS.More
import HandS.Words
import HandS.WordsExc
import HandS.Defaults
import HandS.Head0
import HandS.Head1
import HandS.Head2
import HandS.HeadEnd
import HandS.HeadHook1
import HandS.HeadHook2
import HandS.HeadHook3
import HandS.HeadHook4
import PySem.Challenge.RW_stopdesk_k13_texts
import HandS.ForMost
import HandS.Walk
import KE.GoesNew
import KE.GoesMore
import PyProof.NeKinds
import HandS.Codes
import HandS.IsInst
import HandS.TupMul
import HandS.Exc
import HandS.Style
import HandS.TupAny
import HandS.Conv
import HandS.Text
import HandS.Iter
import HandS.WordsDict
set_option Elab.async false
set_option linter.all false
set_option maxRecDepth 100000
set_option maxHeartbeats 0
namespace Hd
open PySem PySem.Spec PyProof.Rows L2
def top (i : Nat) : Stmt := PySem.Challenge.pw_stopdesk_k13_texts.main.body.getD i (.Pass ⟨0, 0, 0, 0⟩)
abbrev s_m_BadProgram_init : Stmt := inClass (top 2) 0
abbrev s_m_BadText_init : Stmt := inClass (top 3) 0
abbrev s_f_is_number : Stmt := top 15
abbrev s_m_Looker_init : Stmt := inClass (top 16) 0
abbrev s_m_Looker_begin : Stmt := inClass (top 16) 1
abbrev s_m_Looker_bounds : Stmt := inClass (top 16) 2
abbrev s_m_Looker_part : Stmt := inClass (top 16) 3
abbrev s_m_Looker_body : Stmt := inClass (top 16) 4
abbrev s_f_need_head : Stmt := top 17
abbrev s_f_need_program : Stmt := top 18
abbrev s_f_part_words : Stmt := top 28
abbrev s_f_body_words : Stmt := top 29
abbrev s_f_written : Stmt := top 30
abbrev s_f_number_of : Stmt := top 31
abbrev s_m_Reader_init : Stmt := inClass (top 32) 0
abbrev s_m_Reader_word : Stmt := inClass (top 32) 1
abbrev s_m_Reader_number : Stmt := inClass (top 32) 2
abbrev s_m_Reader_numbers : Stmt := inClass (top 32) 3
abbrev s_m_Reader_part : Stmt := inClass (top 32) 4
abbrev s_m_Reader_piece : Stmt := inClass (top 32) 5
abbrev s_m_Reader_body : Stmt := inClass (top 32) 6
abbrev s_f_read : Stmt := top 33
abbrev s_f_law_dice : Stmt := top 35
abbrev s_f_law_next : Stmt := top 36
abbrev s_f_law_like : Stmt := top 37
abbrev s_f_law_part : Stmt := top 38
abbrev s_f_law_body : Stmt := top 39
abbrev s_f_law_count : Stmt := top 40
abbrev s_f_law_program : Stmt := top 41
abbrev s_f_law_words : Stmt := top 42
abbrev s_f_law : Stmt := top 43
def d_m_BadProgram_init : He.DefD := ⟨("BadProgram", some "__init__"), "__init__", "BadProgram.__init__", defArgs s_m_BadProgram_init, defBody s_m_BadProgram_init, defScope s_m_BadProgram_init, [], []⟩
def d_m_BadText_init : He.DefD := ⟨("BadText", some "__init__"), "__init__", "BadText.__init__", defArgs s_m_BadText_init, defBody s_m_BadText_init, defScope s_m_BadText_init, [], []⟩
def d_f_is_number : He.DefD := ⟨("is_number", none), "is_number", "is_number", defArgs s_f_is_number, defBody s_f_is_number, defScope s_f_is_number, [], []⟩
def d_m_Looker_init : He.DefD := ⟨("Looker", some "__init__"), "__init__", "Looker.__init__", defArgs s_m_Looker_init, defBody s_m_Looker_init, defScope s_m_Looker_init, [], []⟩
def d_m_Looker_begin : He.DefD := ⟨("Looker", some "begin"), "begin", "Looker.begin", defArgs s_m_Looker_begin, defBody s_m_Looker_begin, defScope s_m_Looker_begin, [], []⟩
def d_m_Looker_bounds : He.DefD := ⟨("Looker", some "bounds"), "bounds", "Looker.bounds", defArgs s_m_Looker_bounds, defBody s_m_Looker_bounds, defScope s_m_Looker_bounds, [], []⟩
def d_m_Looker_part : He.DefD := ⟨("Looker", some "part"), "part", "Looker.part", defArgs s_m_Looker_part, defBody s_m_Looker_part, defScope s_m_Looker_part, [], []⟩
def d_m_Looker_body : He.DefD := ⟨("Looker", some "body"), "body", "Looker.body", defArgs s_m_Looker_body, defBody s_m_Looker_body, defScope s_m_Looker_body, [], []⟩
def d_f_need_head : He.DefD := ⟨("need_head", none), "need_head", "need_head", defArgs s_f_need_head, defBody s_f_need_head, defScope s_f_need_head, [], []⟩
def d_f_need_program : He.DefD := ⟨("need_program", none), "need_program", "need_program", defArgs s_f_need_program, defBody s_f_need_program, defScope s_f_need_program, [], []⟩
def d_f_part_words : He.DefD := ⟨("part_words", none), "part_words", "part_words", defArgs s_f_part_words, defBody s_f_part_words, defScope s_f_part_words, [], []⟩
def d_f_body_words : He.DefD := ⟨("body_words", none), "body_words", "body_words", defArgs s_f_body_words, defBody s_f_body_words, defScope s_f_body_words, [], []⟩
def d_f_written : He.DefD := ⟨("written", none), "written", "written", defArgs s_f_written, defBody s_f_written, defScope s_f_written, [], []⟩
def d_f_number_of : He.DefD := ⟨("number_of", none), "number_of", "number_of", defArgs s_f_number_of, defBody s_f_number_of, defScope s_f_number_of, [], []⟩
def d_m_Reader_init : He.DefD := ⟨("Reader", some "__init__"), "__init__", "Reader.__init__", defArgs s_m_Reader_init, defBody s_m_Reader_init, defScope s_m_Reader_init, [], []⟩
def d_m_Reader_word : He.DefD := ⟨("Reader", some "word"), "word", "Reader.word", defArgs s_m_Reader_word, defBody s_m_Reader_word, defScope s_m_Reader_word, [], []⟩
def d_m_Reader_number : He.DefD := ⟨("Reader", some "number"), "number", "Reader.number", defArgs s_m_Reader_number, defBody s_m_Reader_number, defScope s_m_Reader_number, [], []⟩
def d_m_Reader_numbers : He.DefD := ⟨("Reader", some "numbers"), "numbers", "Reader.numbers", defArgs s_m_Reader_numbers, defBody s_m_Reader_numbers, defScope s_m_Reader_numbers, [], []⟩
def d_m_Reader_part : He.DefD := ⟨("Reader", some "part"), "part", "Reader.part", defArgs s_m_Reader_part, defBody s_m_Reader_part, defScope s_m_Reader_part, [], []⟩
def d_m_Reader_piece : He.DefD := ⟨("Reader", some "piece"), "piece", "Reader.piece", defArgs s_m_Reader_piece, defBody s_m_Reader_piece, defScope s_m_Reader_piece, [], []⟩
def d_m_Reader_body : He.DefD := ⟨("Reader", some "body"), "body", "Reader.body", defArgs s_m_Reader_body, defBody s_m_Reader_body, defScope s_m_Reader_body, [], []⟩
def d_f_read : He.DefD := ⟨("read", none), "read", "read", defArgs s_f_read, defBody s_f_read, defScope s_f_read, [], []⟩
def d_f_law_dice : He.DefD := ⟨("_law_dice", none), "_law_dice", "_law_dice", defArgs s_f_law_dice, defBody s_f_law_dice, defScope s_f_law_dice, [], []⟩
def d_f_law_next : He.DefD := ⟨("_law_next", none), "_law_next", "_law_next", defArgs s_f_law_next, defBody s_f_law_next, defScope s_f_law_next, [], []⟩
def d_f_law_like : He.DefD := ⟨("_law_like", none), "_law_like", "_law_like", defArgs s_f_law_like, defBody s_f_law_like, defScope s_f_law_like, [], []⟩
def d_f_law_part : He.DefD := ⟨("_law_part", none), "_law_part", "_law_part", defArgs s_f_law_part, defBody s_f_law_part, defScope s_f_law_part, [], []⟩
def d_f_law_body : He.DefD := ⟨("_law_body", none), "_law_body", "_law_body", defArgs s_f_law_body, defBody s_f_law_body, defScope s_f_law_body, [], []⟩
def d_f_law_count : He.DefD := ⟨("_law_count", none), "_law_count", "_law_count", defArgs s_f_law_count, defBody s_f_law_count, defScope s_f_law_count, [], []⟩
def d_f_law_program : He.DefD := ⟨("_law_program", none), "_law_program", "_law_program", defArgs s_f_law_program, defBody s_f_law_program, defScope s_f_law_program, [], []⟩
def d_f_law_words : He.DefD := ⟨("_law_words", none), "_law_words", "_law_words", defArgs s_f_law_words, defBody s_f_law_words, defScope s_f_law_words, [], []⟩
def d_f_law : He.DefD := ⟨("law", none), "law", "law", defArgs s_f_law, defBody s_f_law, defScope s_f_law, [], []⟩
def fn : List He.DefD := [d_m_BadProgram_init, d_m_BadText_init, d_f_is_number, d_m_Looker_init, d_m_Looker_begin, d_m_Looker_bounds, d_m_Looker_part, d_m_Looker_body, d_f_need_head, d_f_need_program, d_f_part_words, d_f_body_words, d_f_written, d_f_number_of, d_m_Reader_init, d_m_Reader_word, d_m_Reader_number, d_m_Reader_numbers, d_m_Reader_part, d_m_Reader_piece, d_m_Reader_body, d_f_read, d_f_law_dice, d_f_law_next, d_f_law_like, d_f_law_part, d_f_law_body, d_f_law_count, d_f_law_program, d_f_law_words, d_f_law]
def fa : List He.Fa := [.glo "is_number", .glo "need_head", .glo "need_program", .glo "part_words", .glo "body_words", .glo "written", .glo "number_of", .glo "read", .glo "_law_dice", .glo "_law_next", .glo "_law_like", .glo "_law_part", .glo "_law_body", .glo "_law_count", .glo "_law_program", .glo "_law_words", .glo "law", .glo "Looker", .cls "Looker", .mkr "Looker", .noat "Looker" "many", .noat "Looker" "params", .noat "Looker" "names", .noat "Looker" "seen", .meth "Looker" "begin", .meth "Looker" "bounds", .meth "Looker" "part", .meth "Looker" "body", .glo "Reader", .cls "Reader", .mkr "Reader", .noat "Reader" "words", .noat "Reader" "at", .meth "Reader" "word", .meth "Reader" "number", .meth "Reader" "numbers", .meth "Reader" "part", .meth "Reader" "piece", .meth "Reader" "body", .int "REST" 10007, .int "MOST_CELLS" 8, .int "MOST_FUNS" 4, .int "MOST_HANDS" 3, .int "MOST_NAMES" 4, .int "MOST_THINGS" 100, .int "MOST_DEEP" 8, .glo "PARTS", .glo "TWO", .glo "DEEDS", .str "FIGURES" "0123456789", .int "MOST_FIGURES" 5, .str "NAME" "n", .str "CELL" "c", .str "CLOSE" "end", .str "CELLS" "cells", .str "FUN" "fun", .str "HANDS" "hands", .free "len", .free "zip", .free "isinstance", .free "range", .free "enumerate", .free "int", .free "list", .free "sorted", .free "tuple", .free "str", .free "bool", .free "sum", .free "max", .free "min"]
def ts : List He.Tab := [(fun K => He.ga K "PARTS", ["num", "name", "cell"]), (fun K => He.ga K "DEEDS", ["set", "put", "say", "if", "again", "call", "return"])]
def exb (K : PySem.W.Frag) : Bool := He.valsB K (He.ga K "PARTS") [("num", .str "n"), ("name", .str "k"), ("cell", .str "c")] && (He.tupB K "TWO" [.str "add", .str "take", .str "times", .str "less", .str "same"] && (He.valsB K (He.ga K "DEEDS") [("set", .str "kx"), ("put", .str "cx"), ("say", .str "x"), ("if", .str "xbb"), ("again", .str "xb"), ("call", .str "fpk"), ("return", .str "x")]))
abbrev R : PySem.W.OpenRow := PySem.W.OpenLaw.row PySem.Challenge.rw_stopdesk_k13_texts
abbrev hk : PySem.W.Hook := He.hookX 4 fa fn ts [] exb
def ob (s : PySem.W.SharedT) : He.AlX := He.obsX 4 fa fn ts [] exb (HandSHeadRun.getT s)
theorem ob_eq (s : PySem.W.SharedT) : ob s = hk.obs s.abs := He.obsX_eq (HandSHeadRun.getT_eq s)
end Hd
set_option Elab.async false
set_option linter.all false
set_option maxRecDepth 100000
set_option maxHeartbeats 0
namespace Hd
open PySem PySem.Spec PyProof.Rows L2
def nm0 : List PySem.Str := ["DeskError", "BadProgram", "BadText", "REST", "MOST_CELLS", "MOST_FUNS", "MOST_HANDS", "MOST_NAMES", "MOST_THINGS", "MOST_DEEP", "PARTS", "TWO", "DEEDS", "is_number", "Looker", "need_head", "need_program", "FIGURES", "MOST_FIGURES", "NAME", "CELL", "CLOSE", "CELLS", "FUN", "HANDS", "part_words", "body_words", "written", "number_of", "Reader"]
def nm1 : List PySem.Str := ["read", "_law_dice", "_law_next", "_law_like", "_law_part", "_law_body", "_law_count", "_law_program", "_law_words"]
def names : List PySem.Str := nm0 ++ nm1
abbrev RunP (w : World) : Prop := HandSHeadRun.RunEq R (PySem.W.view R.prog [43]) hk ob 6000 names w
theorem runF (w : World) : RunP (w.withFollow "special-get-raises" false) := by
  intro os
  kernel_rfl
theorem runT (w : World) : RunP (w.withFollow "special-get-raises" true) := by
  intro os
  kernel_rfl
theorem run (w : World) : HandSHeadRun.RunEq R (PySem.W.view R.prog [43]) hk ob 6000 names w := PySem.W.byRow2 "special-get-raises" (P := RunP) runF runT w
end Hd
set_option Elab.async false
set_option linter.all false
set_option maxRecDepth 100000
set_option maxHeartbeats 2000000
namespace SD
open PySem PySem.Spec PyProof.Rows L2

/-! zip of a text and a tuple -/
def ItzST (K : PySem.W.Frag) (x : Str) (b : Addr) : It :=
  ⟨fun i H => ∃ (ys : List V), SqT K H b ys ∧ i < min x.cps.size ys.length,
   fun i H v H' => ∃ T c y, v = .ref T ∧ H T = none ∧ H' = upd H T (.tup [.str ⟨#[c]⟩, y]) ∧ x.cps[i]? = some c ∧ ∀ ys, SqT K H b ys → ys[i]? = some y,
   fun i H => ∃ ys : List V, SqT K H b ys ∧ i = min x.cps.size ys.length⟩
theorem zfp {z TI TO i1 i2 c : Addr} (h : c ∈ [z, TI, TO, i1, i2]) : c = z ∨ c = TI ∨ c = TO ∨ c = i1 ∨ c = i2 := by simpa using h
theorem turn_zipST {P : Program} {w : World} {K : PySem.W.Frag} {elts : List Expr} {kk : Nat} {tpos : Pos} {x : Str} {t : Tok} {b z TI TO i1 i2 : Addr} (hb : b ≠ i2) (S : ZipSep2 z TI TO i1 i2 [i1] [i2, b]) :
    Turn P w K (.Tuple elts kk tpos) (ItzST K x b) [z, TI, TO, i1, i2] z (fun i h => IsZip h z TI TO .none ∧ IsTupOf2 h TI (.ref i1) (.ref i2) ∧ (∃ a1 a2, IsTupOf2 h TO a1 a2) ∧ h.IsStrIter i1 (strIterType x) x t i ∧ h.IsTupleIter i2 b i) where
  mem := by simp
  obj := fun i h st c hc => by
    obtain ⟨hz, hTI, ⟨x, y, hTO⟩, ⟨o1, e1, _, d1⟩, ⟨o2, e2, _, d2⟩⟩ := st
    rcases zfp hc with q | q | q | q | q
    · rw [q]; exact ⟨_, hz, fun v q => nomatch q⟩
    · rw [q]; exact ⟨_, hTI, fun v q => nomatch q⟩
    · rw [q]; exact ⟨_, hTO, fun v q => nomatch q⟩
    · rw [q]; exact ⟨o1, e1, fun v q => by rw [d1] at q; cases q⟩
    · rw [q]; exact ⟨o2, e2, fun v q => by rw [d2] at q; cases q⟩
  keep := fun i h h' st k => by
    obtain ⟨hz, hTI, ⟨x, y, hTO⟩, ⟨o1, e1, c1, d1⟩, h2⟩ := st
    exact ⟨k z (by simp) _ hz, k TI (by simp) _ hTI, ⟨x, y, k TO (by simp) _ hTO⟩, ⟨o1, k i1 (by simp) _ e1, c1, d1⟩, h2.at fun o q => k i2 (by simp) o q⟩
  item := by
    intro X hP hw hK hc i pins s σ H E I hf st hg
    subst hP hw hK
    obtain ⟨hz, hTI, hTO, h1, h2⟩ := st
    obtain ⟨ys, hq, hi⟩ := hg
    obtain ⟨its, rv, p, _⟩ := I.tuple hq
    have hh := I.ok.hd hc
    have hl : its.toArray.size = ys.length := by have := rv.length; simp; omega
    have W := GoesN.zip2 (elts := elts) (x1 := kk) (pos := tpos) S (Draws.text (prog := X.prog) (w := X.w) (A := X.A.in1) hh i1 x t) (Draws.tuple (prog := X.prog) (w := X.w) (A := X.A.in1) hh i2 b hb its.toArray)
    refine W.goes i s _ E (by rw [hl]; exact hi) ⟨hz, hTI, hTO, h1, ⟨h2, p⟩⟩ fun v h' tk hY hst hk htk => ?_
    obtain ⟨T, u1, u2, rfl, hT, ⟨c, tc, hx1, rfl⟩, hx2, hTu⟩ := hY
    have hi2 : i < ys.length := by omega
    have hy : ys[i]? = some ys[i] := List.getElem?_eq_getElem hi2
    obtain ⟨u3, hu3, ru3⟩ := rv.get hy
    have e2 : u2 = u3 := by
      have : its.toArray[i]? = some u3 := by simpa using hu3
      rw [this] at hx2
      exact (Option.some.inj hx2).symm
    subst e2
    have new : ObjOk X.prog X.w (upd H T (.tup [.str ⟨#[c]⟩, ys[i]])) h' T (.tup [.str ⟨#[c]⟩, ys[i]]) :=
      ⟨by show 2 ≤ sizeLine; decide, [.str ⟨#[c]⟩ tc, u2], .cons ⟨_, rfl⟩ (.cons ru3 .nil), hTu⟩
    have I1 : Inv X pins σ (upd H T (.tup [.str ⟨#[c]⟩, ys[i]])) { s with heap := h', toks := tk } :=
      I.turnedNew (t' := tk) (ch := [z, TI, TO, i1, i2]) (fun a o ha q => hk a o (fun hm => ha (by simp at hm; rcases hm with h | h | h | h <;> simp [h])) q) hf hT new
    obtain ⟨g1, g2, g3, g4, g5⟩ := hst
    refine ⟨.ref T, _, I1, rfl, ⟨T, c, ys[i], rfl, I.hok.fresh hT, rfl, hx1, fun l hl' => by rw [I.tuple_inj hl' hq]; exact hy⟩, ⟨g1, g2, g3, g4, g5.1⟩, fun a ha => ?_⟩
    have hne : a ≠ T := by
      intro e
      have hlt : a < s.heap.objs.size := by
        rcases zfp ha with q | q | q | q | q
        · rw [q]; exact Heap.lt_size hz
        · rw [q]; exact Heap.lt_size hTI
        · rw [q]; obtain ⟨_, _, hTO⟩ := hTO; exact Heap.lt_size hTO
        · rw [q]; obtain ⟨_, e1, _⟩ := h1; exact Heap.lt_size e1
        · rw [q]; obtain ⟨_, e2, _⟩ := h2; exact Heap.lt_size e2
      exact absurd (Nat.lt_of_lt_of_le hlt hT) (by rw [e]; exact Nat.lt_irrefl _)
    rw [upd_ne hne]
    exact (hf a ha).1
  done := by
    intro X hP hw hK hc i pins s σ H E I hf st hg
    subst hP hw hK
    obtain ⟨hz, hTI, hTO, h1, h2⟩ := st
    obtain ⟨ys, hq, hi⟩ := hg
    obtain ⟨its, rv, p, _⟩ := I.tuple hq
    have hh := I.ok.hd hc
    have hl : its.toArray.size = ys.length := by have := rv.length; simp; omega
    have W := GoesN.zip2 (elts := elts) (x1 := kk) (pos := tpos) S (Draws.text (prog := X.prog) (w := X.w) (A := X.A.in1) hh i1 x t) (Draws.tuple (prog := X.prog) (w := X.w) (A := X.A.in1) hh i2 b hb its.toArray)
    rw [hl, ← hi] at W
    refine W.stops s _ E ⟨hz, hTI, hTO, h1, ⟨h2, p⟩⟩ fun h' tk hk htk => ?_
    exact I.turnedL (t' := tk) (ch := [z, TI, TO, i1, i2]) (fun a o ha q => hk a o (fun hm => ha (by simp at hm; rcases hm with h | h | h | h <;> simp [h])) q) hf
  self := fun A i s Q E st h => wpAny_pyIter_zip st.1 h
def iZipST (K : PySem.W.Frag) (ta : TA) : TI := fun σ H R => ta σ H fun vs H1 => ∃ x b ys, vs = [.str x, .ref b] ∧ SqT K H1 b ys ∧ R (ItzST K x b) H1
theorem pi_zipST {X : Cx} {e e2 : Expr} {ta : TA} {p pos tpos : Pos} {elts : List Expr} {kk : Nat} (hg : Gl X "zip") (hm : X.mg "zip" = none) (ha : PA X [e, e2] ta)
    (hs : starEach [e, e2] X.env = (false, eval e X.env) :: starEach [e2] X.env := by rfl) (hpl : (backTo pos (starEach [e2] X.env)).any (·.1) = false := by rfl) :
    PI X (.Tuple elts kk tpos) (.Call (.Name "zip" p) [e, e2] [] pos) (iZipST X.K ta) := by
  refine ⟨fun pins s σ H R I h => ?_⟩
  refine Call_ (ld_blt I hg hm PyProof.Rows.boot_zip (PyProof.Rows.callWith_type1 (thn (ha.run pos pins s σ H _ I h) fun us s1 ⟨vs, H1, I1, r1, q1⟩ => ?_) hs hpl))
  obtain ⟨x, b, ys, ex, hqy, q⟩ := q1
  subst ex
  cases r1 with
  | cons r rr =>
    cases rr with
    | cons r' rr =>
      cases rr
      obtain ⟨t, rfl⟩ := r
      cases r'
      obtain ⟨its2, rv2, p2, _⟩ := I1.tuple hqy
      have lb : b < s1.heap.objs.size := by obtain ⟨o, ho, _⟩ := id p2; exact Heap.lt_size ho
      refine zip_begins2 (begins_text x t) (begins_tuple b its2.toArray) trivial p2 fun h' hz hTI hTO h1 h2 hsz hk => wpAny_pyIter_zip hz ?_
      have I2 : Inv X pins σ H1 { s1 with heap := h' } := I1.kept (t' := s1.toks) hk
      have S := zip_sep2 (N := s1.heap.objs.size) (fp1 := []) (fp2 := [b]) (by simp) (by intro c hc; simp at hc; rw [hc]; exact lb)
      refine ⟨s1.heap.objs.size + 4, [s1.heap.objs.size + 4, s1.heap.objs.size + 2, s1.heap.objs.size + 3, s1.heap.objs.size, s1.heap.objs.size + 1], _, _, H1, rfl, I2, turn_zipST (x := x) (t := t) (Nat.ne_of_lt (Nat.lt_succ_of_lt lb)) S, ⟨hz, hTI, ⟨_, _, hTO⟩, ⟨_, h1, rfl, rfl⟩, ⟨_, h2, rfl, rfl⟩⟩, fun c hcm => ?_, q⟩
      have hle : s1.heap.objs.size ≤ c := by
        rcases zfp hcm with z | z | z | z | z
        · rw [z]; exact Nat.le_add_right _ _
        · rw [z]; exact Nat.le_add_right _ _
        · rw [z]; exact Nat.le_add_right _ _
        · rw [z]; exact Nat.le_refl _
        · rw [z]; exact Nat.le_add_right _ _
      exact I1.fpOk hle (I1.hok.fresh hle)
def YST (x : Str) (ys : List V) : Nat → Hp → V → Hp → Prop := fun i H v H' => ∃ T c y, v = .ref T ∧ H T = none ∧ H' = upd H T (.tup [.str ⟨#[c]⟩, y]) ∧ x.cps[i]? = some c ∧ ys[i]? = some y
theorem walk_zipST {K : PySem.W.Frag} {x : Str} {b : Addr} {ys : List V} : Walk (ItzST K x b) (min x.cps.size ys.length) (fun H => SqT K H b ys) (YST x ys) :=
  ⟨fun i H hi q => ⟨ys, q, hi⟩, fun H q => ⟨ys, q, rfl⟩, fun i H v H' hi q ⟨T, c, y, e1, e2, e3, e4, e5⟩ => ⟨T, c, y, e1, e2, e3, e4, e5 ys q⟩⟩


set_option maxHeartbeats 1000000 in
theorem meets_enumerate_new1B {v : Value} {o : Obj} {H : Heap → Prop} (B : Begins v o H) :
    Meets (Builtin.«enumerate.__new__» ⟨[.type "enumerate", v], []⟩) (fun _ R s => H s.heap ∧
      R (.ok (.ret (.ref (s.heap.push o).objs.size))) { s with heap := (s.heap.push o).push { cls := .type "enumerate", data := .fields #[.none, .bool false, .ref s.heap.objs.size, rawInt 0, .none, .none] } }) :=
  .of_wp fun prog w A R s h => by
    obtain ⟨hp, g, d, tk, os⟩ := s; obtain ⟨h1, h⟩ := h
    have hsub := sub_enumerate
    have q1 : ∀ {A' : Around} {E : Value → Shared → Prop} {Q : Value → Shared → Prop}, Q (.ref hp.objs.size) ⟨hp.push o, g, d, tk, os⟩ → wpAny (model prog w) A' (pyIter v) Q E ⟨hp, g, d, tk, os⟩ :=
      fun q => B.iter prog w _ _ ⟨hp, g, d, tk, os⟩ _ h1 q
    wp_walk using q1
    refine wpAny_stack_any fun st => wpAny_pure ?_
    split
    · rename_i c _ _ _ _ _
      cases (c == Value.type "enumerate")
      · wp_walk using q1
        exact ⟨_, rfl, h⟩
      · wp_walk using q1
        exact ⟨_, rfl, h⟩
    · wp_walk using q1
      exact ⟨_, rfl, h⟩
theorem call_enumerate_tuple {prog : Program} {w : World} {A : Around} {E : Value → Shared → Prop} {s : Shared} {l : Addr} {items : Array Value} {Q : Value → Shared → Prop} (hL : s.heap.IsTuple l items)
    (h : ∀ h', IsEnum h' (s.heap.objs.size + 1) s.heap.objs.size 0 .none → h'.IsTupleIter s.heap.objs.size l 0 → h'.objs.size = s.heap.objs.size + 2 →
      (∀ b o, s.heap.get? b = some o → h'.get? b = some o) → Q (.ref (s.heap.objs.size + 1)) { s with heap := h' }) :
    wpAny (model prog w) A (call (.type "enumerate") [.ref l]) Q E s := by
  have B := begins_tuple l items
  refine callType_new F.called_enumerate (by decide) (F.typeCall_enumerate_1 _) (F.newCall_enumerate_1 _) (fun obj => F.args_object_init_2 obj _) F.entry_enumerate_new
    (meets_enumerate_new1B B) ⟨hL, ?_⟩
  generalize ho : ({ cls := .type "tuple_iterator", data := .fields #[.ref l, .int 0 0] } : Obj) = o at B
  have hz : (s.heap.push o).objs.size = s.heap.objs.size + 1 := Heap.size_push ..
  show _ ∧ _
  rw [hz]
  have he : IsEnum ((s.heap.push o).push { cls := .type "enumerate", data := .fields #[.none, .bool false, .ref s.heap.objs.size, rawInt 0, .none, .none] }) (s.heap.objs.size + 1) s.heap.objs.size 0 .none := by
    have := Heap.get?_push_size (s.heap.push o) (o := { cls := .type "enumerate", data := .fields #[.none, .bool false, .ref s.heap.objs.size, rawInt 0, .none, .none] }) rfl
    rw [hz] at this; exact this
  refine ⟨⟨_, he, rfl⟩, h _ he ⟨o, Heap.get?_push_of_some _ (Heap.get?_push_size _ B.free), by rw [← ho], by rw [← ho]; rfl⟩ (by rw [Heap.size_push, hz]) fun b o x => Heap.get?_push_of_some _ (Heap.get?_push_of_some _ x)⟩
/-! enumerate of a tuple -/
def ItET (K : PySem.W.Frag) (b : Addr) : It :=
  ⟨fun i H => ∃ (ys : List V), SqT K H b ys ∧ i < ys.length,
   fun i H v H' => ∃ T y, v = .ref T ∧ H T = none ∧ H' = upd H T (.tup [.int (i : Nat), y]) ∧ ∀ ys, SqT K H b ys → ys[i]? = some y,
   fun i H => ∃ ys : List V, SqT K H b ys ∧ i = ys.length⟩
theorem turn_enumT {P : Program} {w : World} {K : PySem.W.Frag} {elts : List Expr} {kk : Nat} {tpos : Pos} {b e it : Addr} (hb : b ≠ it) (hei : e ≠ it) (heb : e ≠ b) :
    Turn P w K (.Tuple elts kk tpos) (ItET K b) [e, it] e (fun i h => (∃ old, IsEnum h e it ((i : Nat) : Int) old) ∧ h.IsTupleIter it b i) where
  mem := by simp
  obj := fun i h st c hc => by
    obtain ⟨⟨old, he⟩, ⟨o2, e2, _, d2⟩⟩ := st
    have e' : c = e ∨ c = it := by simpa using hc
    rcases e' with q | q
    · rw [q]; exact ⟨_, he, fun v q => nomatch q⟩
    · rw [q]; exact ⟨o2, e2, fun v q => by rw [d2] at q; cases q⟩
  keep := fun i h h' st k => by
    obtain ⟨⟨old, he⟩, h2⟩ := st
    exact ⟨⟨old, k e (by simp) _ he⟩, h2.at fun o q => k it (by simp) o q⟩
  item := by
    intro X hP hw hK hc i pins s σ H E I hf st hg
    subst hP hw hK
    obtain ⟨he, h2⟩ := st
    obtain ⟨ys, hq, hi⟩ := hg
    obtain ⟨its, rv, p, _⟩ := I.tuple hq
    have hh := I.ok.hd hc
    have hl : its.toArray.size = ys.length := by have := rv.length; simp; omega
    have W := GoesN.enumFrom (elts := elts) (x1 := kk) (pos := tpos) 0 (Draws.tuple (prog := X.prog) (w := X.w) (A := X.A.in1) hh it b hb its.toArray) e hei (by simp [hei, heb]) (by simp)
    refine W.goes i s _ E (by rw [hl]; exact hi) ⟨by obtain ⟨old, he⟩ := he; exact ⟨old, by rw [Int.zero_add]; exact he⟩, ⟨h2, p⟩⟩ fun v h' tk hY hst hk htk => ?_
    obtain ⟨T, tc, u2, rfl, hT, hx2, hTu⟩ := hY
    have hy : ys[i]? = some ys[i] := List.getElem?_eq_getElem hi
    obtain ⟨u3, hu3, ru3⟩ := rv.get hy
    have e2 : u2 = u3 := by
      have : its.toArray[i]? = some u3 := by simpa using hu3
      rw [this] at hx2
      exact (Option.some.inj hx2).symm
    subst e2
    have new : ObjOk X.prog X.w (upd H T (.tup [.int (i : Nat), ys[i]])) h' T (.tup [.int (i : Nat), ys[i]]) :=
      ⟨by show 2 ≤ sizeLine; decide, [.int (0 + (i : Int)) tc, u2], .cons ⟨tc, by rw [Int.zero_add]⟩ (.cons ru3 .nil), hTu⟩
    have I1 : Inv X pins σ (upd H T (.tup [.int (i : Nat), ys[i]])) { s with heap := h', toks := tk } :=
      I.turnedNew (t' := tk) (ch := [e, it]) (fun a o ha q => hk a o (fun hm => ha hm) q) hf hT new
    obtain ⟨⟨old, g1⟩, g5⟩ := hst
    refine ⟨.ref T, _, I1, rfl, ⟨T, ys[i], rfl, I.hok.fresh hT, rfl, fun l hl' => by rw [I.tuple_inj hl' hq]; exact hy⟩, ⟨⟨old, by rw [Int.zero_add] at g1; exact g1⟩, g5.1⟩, fun a ha => ?_⟩
    have hne : a ≠ T := by
      intro e0
      have hlt : a < s.heap.objs.size := by
        have e' : a = e ∨ a = it := by simpa using ha
        rcases e' with q | q
        · rw [q]; obtain ⟨_, e1⟩ := he; exact Heap.lt_size e1
        · rw [q]; obtain ⟨_, e2, _⟩ := h2; exact Heap.lt_size e2
      exact absurd (Nat.lt_of_lt_of_le hlt hT) (by rw [e0]; exact Nat.lt_irrefl _)
    rw [upd_ne hne]
    exact (hf a ha).1
  done := by
    intro X hP hw hK hc i pins s σ H E I hf st hg
    subst hP hw hK
    obtain ⟨he, h2⟩ := st
    obtain ⟨ys, hq, hi⟩ := hg
    obtain ⟨its, rv, p, _⟩ := I.tuple hq
    have hh := I.ok.hd hc
    have hl : its.toArray.size = ys.length := by have := rv.length; simp; omega
    have W := GoesN.enumFrom (elts := elts) (x1 := kk) (pos := tpos) 0 (Draws.tuple (prog := X.prog) (w := X.w) (A := X.A.in1) hh it b hb its.toArray) e hei (by simp [hei, heb]) (by simp)
    rw [hl, ← hi] at W
    refine W.stops s _ E ⟨by obtain ⟨old, he⟩ := he; exact ⟨old, by rw [Int.zero_add]; exact he⟩, ⟨h2, p⟩⟩ fun h' tk hk htk => ?_
    exact I.turnedL (t' := tk) (ch := [e, it]) (fun a o ha q => hk a o ha q) hf
  self := fun A i s Q E st h => by
    obtain ⟨⟨old, he⟩, _⟩ := st
    exact wpAny_pyIter_enum he h
def iEnumT (K : PySem.W.Frag) (ta : TA) : TI := fun σ H R => ta σ H fun vs H1 => ∃ a xs, vs = [.ref a] ∧ SqT K H1 a xs ∧ R (ItET K a) H1
theorem pi_enumT {X : Cx} {e : Expr} {ta : TA} {p pos tpos : Pos} {elts : List Expr} {kk : Nat} (hg : Gl X "enumerate") (hm : X.mg "enumerate" = none) (ha : PA X [e] ta) (hs : starEach [e] X.env = [(false, eval e X.env)] := by rfl) :
    PI X (.Tuple elts kk tpos) (.Call (.Name "enumerate" p) [e] [] pos) (iEnumT X.K ta) := by
  refine ⟨fun pins s σ H R I h => ?_⟩
  refine Call_ (ld_blt I hg hm boot_enumerate (PyProof.Rows.callWith_type1 (thn (ha.run pos pins s σ H _ I h) fun us s1 ⟨vs, H1, I1, r1, q1⟩ => ?_) hs rfl))
  obtain ⟨a, xs, ex, hq, q⟩ := q1
  subst ex
  cases r1 with
  | cons r rr =>
    cases rr
    cases r
    obtain ⟨its, rv, p', hz⟩ := I1.tuple hq
    have lb : a < s1.heap.objs.size := by obtain ⟨o, ho, _⟩ := id p'; exact Heap.lt_size ho
    refine call_enumerate_tuple p' fun h' he hit hsz hk => wpAny_pyIter_enum he ?_
    have I2 : Inv X pins σ H1 { s1 with heap := h' } := I1.kept (t' := s1.toks) hk
    refine ⟨s1.heap.objs.size + 1, [s1.heap.objs.size + 1, s1.heap.objs.size], _, _, H1, rfl, I2, turn_enumT (Nat.ne_of_lt lb) (Nat.succ_ne_self _) (Nat.ne_of_gt (Nat.lt_succ_of_lt lb)), ⟨⟨.none, he⟩, hit⟩, fun b hb => ?_, q⟩
    have e' : b = s1.heap.objs.size + 1 ∨ b = s1.heap.objs.size := by simpa using hb
    have hle : s1.heap.objs.size ≤ b := by
      rcases e' with z | z
      · rw [z]; exact Nat.le_add_right _ _
      · rw [z]; exact Nat.le_refl _
    exact I1.fpOk hle (I1.hok.fresh hle)
theorem walk_enumT {K : PySem.W.Frag} {b : Addr} {ys : List V} : Walk (ItET K b) ys.length (fun H => SqT K H b ys) (fun i H v H' => ∃ T y, v = .ref T ∧ H T = none ∧ H' = upd H T (.tup [.int (i : Nat), y]) ∧ ys[i]? = some y) :=
  ⟨fun i H hi q => ⟨ys, q, hi⟩, fun H q => ⟨ys, q, rfl⟩, fun i H v H' hi q ⟨T, y, e1, e2, e3, e5⟩ => ⟨T, y, e1, e2, e3, e5 ys q⟩⟩
end SD
set_option Elab.async false
set_option linter.all false
set_option maxRecDepth 100000
set_option maxHeartbeats 2000000
namespace SD
open PySem PySem.Spec PyProof.Rows L2 PySem.SeqAt
/-! a list beside an empty one -/
def rEqNil (K : PySem.W.Frag) (neg : Bool) : R2 := fun x y H Q => ∃ a b xs, x = .ref a ∧ y = .ref b ∧ SqL K H a xs ∧ SqL K H b [] ∧ Q (.bl (if neg then !xs.isEmpty else xs.isEmpty)) H
theorem op_eqNil {X : Cx} (hu : X.A.units + 1 < cLine) : OpR X (compareOp .Eq) (rEqNil X.K false) := by
  intro pins s σ H x y v u Q I rx ry h
  obtain ⟨a, b, xs, rfl, rfl, ha, hb, q⟩ := h
  cases rx; cases ry
  obtain ⟨i1, r1, p1, _⟩ := I.list ha
  obtain ⟨i2, r2, p2, _⟩ := I.list hb
  cases r2
  cases xs with
  | nil =>
    cases r1
    refine eq_listAt (e := fun _ => true) p1.isList p2.isList rfl (Nat.lt_of_le_of_lt (Nat.le_succ _) hu) (fun j h1 => by simp at h1) ?_
    exact ⟨.bl _, H, I, rfl, q⟩
  | cons x0 xs =>
    cases r1
    refine eq_list_lengthsAt p1.isList p2.isList (by simp) (Nat.lt_of_le_of_lt (Nat.le_succ _) hu) ?_
    exact ⟨.bl _, H, I, rfl, q⟩
theorem op_neNil {X : Cx} (hu : X.A.units + 1 < cLine) : OpR X (compareOp .NotEq) (rEqNil X.K true) := by
  intro pins s σ H x y v u Q I rx ry h
  obtain ⟨a, b, xs, rfl, rfl, ha, hb, q⟩ := h
  cases rx; cases ry
  obtain ⟨i1, r1, p1, _⟩ := I.list ha
  obtain ⟨i2, r2, p2, _⟩ := I.list hb
  cases r2
  cases xs with
  | nil =>
    cases r1
    refine (RcNeAt.lists (e := fun _ => true) p1.isList p2.isList rfl (Nat.lt_of_le_of_lt (Nat.le_succ _) hu) (fun j h1 => by simp at h1)) X.prog X.w _ _ ?_
    exact ⟨.bl _, H, I, rfl, q⟩
  | cons x0 xs =>
    cases r1
    refine (RcNeAt.lists_lengths p1.isList p2.isList (by simp) (Nat.lt_of_le_of_lt (Nat.le_succ _) hu)) X.prog X.w _ _ ?_
    exact ⟨.bl _, H, I, rfl, q⟩

/-! d.get(k, x) of a dict of the top with text keys -/
def KTab (K : PySem.W.Frag) (w : World) (d : Addr) (f : Str → Option V) : Prop :=
  ∃ es n, KDict K w d es n ∧ ∀ z, ∃ r, PySem.W.nsIn K d z = some r ∧ RelO (f z) r
def tKGet (K : PySem.W.Frag) (w : World) (td ty tx : TE) : TE := fun σ H Q => td σ H fun x H1 => ∃ d f, x = .ref d ∧ KTab K w d f ∧ ty σ H1 fun y H2 => tx σ H2 fun z H3 => ∃ k, y = .str k ∧ Q ((f k).getD z) H3
def rKItem (K : PySem.W.Frag) (w : World) : R2 := fun x y H Q => ∃ d k f v, x = .ref d ∧ y = .str k ∧ KTab K w d f ∧ f k = some v ∧ Q v H
theorem relO_some {v : V} {r : Option Value} (h : RelO (some v) r) : ∃ u, r = some u ∧ RelV v u := by
  cases r with
  | none => exact h.elim
  | some u => exact ⟨u, rfl, h⟩
theorem relO_getD {o : Option V} {r : Option Value} {z : V} {u : Value} (h : RelO o r) (hz : RelV z u) : RelV (o.getD z) (r.getD u) := by
  cases o with
  | none => cases r with
    | none => exact hz
    | some _ => exact h.elim
  | some v => cases r with
    | none => exact h.elim
    | some _ => exact h
section
variable {X : Cx} {o e f : Expr} {apos cpos : Pos} {td ty tx : TE}
theorem ix_ktab : IxR X (rKItem X.K X.w) := by
  intro value slice pins s σ H x y v u Q I rx ry h hs
  obtain ⟨d, k, f, v0, rfl, rfl, ⟨es, n, D, hf⟩, hk, q⟩ := h
  obtain ⟨r, e, ro⟩ := hf k
  rw [hk] at ro
  obtain ⟨u0, rfl, ru⟩ := relO_some ro
  exact ix_kdict value slice pins s σ H _ _ v u Q I rx ry ⟨d, k, v0, rfl, rfl, ⟨es, n, u0, D.at_, D.lit, e, ru⟩, q⟩ hs
theorem pe_kget (ho : PE X o td) (he : PE X e ty) (hf : PE X f tx) (m : M2 X o "get" apos e f cpos) : PE X (.Call (.Attribute o "get" apos) [e, f] [] cpos) (tKGet X.K X.w td ty tx) := by
  refine ⟨fun pins s σ H Q I h => ?_⟩
  refine wpAny_Call_method m.base m.few m.line PySem.F.plainAttrs_dict PySem.F.slot_dict_get PySem.F.type_dict_get (thn (ho.run pins s σ H _ I h) fun u s1 ⟨x, H1, I1, rx, d, g, ex, ⟨es, n, D, hg⟩, q1⟩ => ?_)
  subst ex
  obtain rfl : u = Value.ref d := rx
  have hm := PySem.W.mapOf_K (prog := X.prog) (w := X.w) I1.kIn D.at_ D.lit
  refine ⟨hm.typeIs, fun b q => ?_, ?_⟩
  · cases q
    exact ⟨_, I1.kIn _ _ D.at_, rfl⟩
  rw [m.trees]
  refine Calls.callWith_builtin rfl (Calls.evalArgs_plain (Calls.spliced_cons (thn (he.run pins s1 σ H1 _ I1 q1) fun iv s2 ⟨y, H2, I2, ry, q2⟩ =>
    Calls.spliced_cons (thn (hf.run pins s2 σ H2 _ I2 q2) fun fv s3 ⟨z, H3, I3, rz, k, ey, q3⟩ => Calls.spliced_nil ?_))))
  subst ey
  obtain ⟨t, rfl⟩ := ry
  obtain ⟨r, en, ro⟩ := hg k
  have hm3 := PySem.W.mapOf_K (prog := X.prog) (w := X.w) I3.kIn D.at_ D.lit
  refine call_meetsIn PySem.F.slot_dict_get hm3.typeIs PySem.F.entry_dict_get (PySem.F.args_dict_get_3 _ _ _) (meets_dict_get_default (strKind X.prog X.w) d (strKind_is X.prog X.w k t) D.low fv) ⟨_, hm3, ?_⟩
  rw [PySem.W.find_K D.at_ en]
  exact ⟨_, H3, I3.tok _, relO_getD ro rz, q3⟩
end

/-! lists that no one changes any more: locked as they stand -/
def Frzd (L : Addr → Prop) (H H' : Hp) : Prop := ∀ b, (H' b = H b ∧ (L b → ∀ xs, H b ≠ some (.lst xs))) ∨ (L b ∧ ∃ xs o, H b = some (.lst xs) ∧ H' b = some (.frz o (.lst xs)))
open Classical in
theorem Inv.freeze {X : Cx} {pins : List (Addr × Obj)} {σ : L2.St} {H : Hp} {s : Shared} (I : L2.Inv X pins σ H s) (L : Addr → Prop) : ∃ H', Frzd L H H' ∧ L2.Inv X pins σ H' s := by
  let H' : Hp := fun b => if L b then (match H b with
    | some (.lst xs) => (s.heap.get? b).map fun o => HO.frz o (.lst xs)
    | r => r) else H b
  have hcase : ∀ b, (H' b = H b ∧ (L b → ∀ xs, H b ≠ some (.lst xs))) ∨ (L b ∧ ∃ xs o, H b = some (.lst xs) ∧ s.heap.get? b = some o ∧ H' b = some (.frz o (.lst xs))) := by
    intro b
    by_cases hL : L b
    · cases e : H b with
      | none => exact .inl ⟨by show (if L b then _ else _) = _; rw [if_pos hL, e], fun _ xs q => nomatch q⟩
      | some u =>
        cases u with
        | lst xs =>
          obtain ⟨_, its, n, _, eo⟩ := I.hok b _ e
          exact .inr ⟨hL, xs, _, rfl, eo, by show (if L b then _ else _) = _; rw [if_pos hL, e, eo]; rfl⟩
        | _ => exact .inl ⟨by show (if L b then _ else _) = _; rw [if_pos hL, e], fun _ xs q => nomatch q⟩
    · exact .inl ⟨by show (if L b then _ else _) = _; rw [if_neg hL], fun q => absurd q hL⟩
  have keepN : ∀ b, (∀ xs, H b ≠ some (.lst xs)) → H' b = H b := fun b hn => by
    rcases hcase b with h | ⟨_, xs, o, h, _⟩
    · exact h.1
    · exact absurd h (hn xs)
  have keepS : ∀ b u, H b = some u → (∀ xs, u ≠ .lst xs) → H' b = some u := fun b u e hn => by
    rw [keepN b fun xs q => hn xs (Option.some.inj (e.symm.trans q))]; exact e
  have noneN : ∀ b, H b = none → H' b = none := fun b e => by rw [keepN b fun xs q => by rw [e] at q; cases q]; exact e
  refine ⟨H', fun b => ?_, ?_⟩
  · rcases hcase b with h | ⟨hL, xs, o, h1, _, h2⟩
    · exact .inl h
    · exact .inr ⟨hL, xs, o, h1, h2⟩
  · refine ⟨I.ok, I.os, I.bare, ⟨fun b o e n hb hx => I.base.keep b o e n hb hx, fun b o e n hb hx => I.base.slot b o e n hb hx, fun b o e n hx => noneN b (I.base.free b o e n hx), fun b o e hx => I.base.there b o e hx, fun b xs e => keepS b _ (I.base.tups b xs e) (fun _ q => nomatch q), fun b o u e => keepS b _ (I.base.frzs b o u e) (fun _ q => nomatch q), fun b ps e => ?_⟩, I.loc, I.cell, noneN _ I.free, fun x c e => noneN c (I.freeC x c e), fun p hp => ?_, fun b u e => ?_, I.len⟩
    · obtain ⟨more, q⟩ := I.base.tbls b ps e
      exact ⟨more, keepS b _ q (fun _ q => nomatch q)⟩
    · obtain ⟨a1, a2, a3⟩ := I.pin p hp
      exact ⟨a1, noneN _ a2, a3⟩
    · have stay : ∀ v, ObjOk X.prog X.w H s.heap b v → ObjOk X.prog X.w H' s.heap b v := fun v x =>
        x.stay (fun _ _ _ q => q) (fun c q => keepS c _ q (fun _ q => nomatch q)) (fun c xs q => keepS c _ q (fun _ q => nomatch q))
      rcases hcase b with ⟨h, _⟩ | ⟨hL, xs, o, h1, h2, h3⟩
      · rw [h] at e
        exact stay u (I.hok b u e)
      · rw [h3] at e
        cases e
        exact ⟨h2, stay _ (I.hok b _ h1)⟩
def tFrz (t : TE) (L : V → Hp → Addr → Prop) : TE := fun σ H Q => t σ H fun v H1 => ∀ H2, Frzd (L v H1) H1 H2 → Q v H2
theorem pe_frz {X : Cx} {e : Expr} {t : TE} (L : V → Hp → Addr → Prop) (he : PE X e t) : PE X e (tFrz t L) := by
  refine ⟨fun pins s σ H Q I h => thn (he.run pins s σ H _ I h) fun u s1 ⟨v, H1, I1, rv, q⟩ => ?_⟩
  obtain ⟨H2, fz, I2⟩ := Inv.freeze I1 (L v H1)
  exact ⟨v, H2, I2, rv, q H2 fz⟩
end SD
set_option Elab.async false
set_option linter.all false
set_option maxRecDepth 100000
set_option maxHeartbeats 2000000
namespace SD
open PySem PySem.Spec PyProof.Rows L2
open C8 (Cal Met Mak pe_c pe_mk pe_mt pe_mt0 pe_gc)
abbrev rIsN : R2 := fun x y H Q => y = .non ∧ Q (.bl (decide (x = .non))) H
abbrev rNotN : R2 := fun x y H Q => y = .non ∧ Q (.bl (!decide (x = .non))) H
abbrev rInS : R2 := fun x y H Q => ∃ (c : Nat) (z : Str), x = .str ⟨#[c]⟩ ∧ y = .str z ∧ Q (.bl (decide (c ∈ z.cps.toList))) H
abbrev rNotInS : R2 := fun x y H Q => ∃ (c : Nat) (z : Str), x = .str ⟨#[c]⟩ ∧ y = .str z ∧ Q (.bl (!decide (c ∈ z.cps.toList))) H
abbrev rAddStr : R2 := fun x y H Q => ∃ i j, x = .str i ∧ y = .str j ∧ i.length + j.length ≤ sizeLine ∧ Q (.str (i ++ j)) H
abbrev rLenS' (K : PySem.W.Frag) : List V → Hp → VK → Prop := fun xs H Q => ∃ p ys, xs = [.ref p] ∧ (SqL K H p ys ∨ SqT K H p ys) ∧ Q (.int ys.length) H
abbrev rLenStr : List V → Hp → VK → Prop := fun xs H Q => ∃ z, xs = [.str z] ∧ z.length ≤ sizeLine ∧ Q (.int z.length) H
abbrev rInt1 : List V → Hp → VK → Prop := fun xs H Q => (∃ i, xs = [.int i] ∧ Q (.int i) H) ∨ ∃ k, xs = [.bl k] ∧ Q (.int (if k then 1 else 0)) H
abbrev rIntStr : List V → Hp → VK → Prop := fun xs H Q => ∃ a n, xs = [.str a] ∧ PySem.intText? a = some n ∧ a.length ≤ 640 ∧ Q (.int n) H
abbrev rStrInt : List V → Hp → VK → Prop := fun xs H Q => ∃ i : Int, xs = [.int i] ∧ i.natAbs.log2 < 1920 ∧ Q (.str (toString i)) H
abbrev rListOf (K : PySem.W.Frag) : List V → Hp → VK → Prop := fun xs H Q => ∃ p ys, xs = [.ref p] ∧ (SqL K H p ys ∨ SqT K H p ys) ∧ ∀ l, H l = none → Q (.ref l) (upd H l (.lst ys))
abbrev rTupleOf (K : PySem.W.Frag) : List V → Hp → VK → Prop := fun xs H Q => ∃ p ys, xs = [.ref p] ∧ ((SqL K H p ys ∧ ∀ l, H l = none → Q (.ref l) (upd H l (.tup ys))) ∨ (SqT K H p ys ∧ Q (.ref p) H))
abbrev rSortedDI : List V → Hp → VK → Prop := fun xs H Q => ∃ (a : Addr) (kvs : List (Key × V)) (ks : List Int), xs = [.ref a] ∧ Rd H a (.dK kvs) ∧ kvs.map (·.1) = ks.map Sum.inl ∧ ks.length < 64 ∧
    ∀ (ys : List Int) (p : Addr), ys.Perm ks → ys.Pairwise (· ≤ ·) → H p = none → Q (.ref p) (upd H p (.lst (ys.map V.int)))
/-! isinstance with a built-in class -/
def IsiOf (K : PySem.W.Frag) (H : Hp) (x : V) (n : String) (b : Bool) : Prop := ∃ t, TyX K H x (.type t) ∧ PySem.W.kitOne K (.type t) (.type n) = some b
abbrev rIsi' (K : PySem.W.Frag) : List V → Hp → VK → Prop := fun xs H Q => ∃ x n b, xs = [x, .ty n] ∧ IsiOf K H x n b ∧ Q (.bl b) H
theorem call_isi' {X : Cx} : CallR X (.builtin "isinstance") (rIsi' X.K) := by
  intro pins s σ H xs us Q I r q
  obtain ⟨x, n, b, rfl, ⟨t, h1, h2⟩, q⟩ := q
  exact call_isi pins s σ H _ us Q I r ⟨x, .ty n, _, _, b, rfl, .ty n, h1, h2, q⟩
/-! locking behind an expression, a statement -/
def tFrzE (t : TE) : TE := fun σ H Q => t σ H fun v H1 => ∃ L : Addr → Prop, ∀ H2, Frzd L H1 H2 → Q v H2
theorem pe_frzE {X : Cx} {e : Expr} {t : TE} (he : PE X e t) : PE X e (tFrzE t) := by
  refine ⟨fun pins s σ H Q I h => thn (he.run pins s σ H _ I h) fun u s1 ⟨v, H1, I1, rv, L, q⟩ => ?_⟩
  obtain ⟨H2, fz, I2⟩ := Inv.freeze I1 L
  exact ⟨v, H2, I2, rv, q H2 fz⟩
def tFrzS (t : TS) : TS := fun D σ H => t { D with nx := fun σ1 H1 => ∃ L : Addr → Prop, ∀ H2, Frzd L H1 H2 → D.nx σ1 H2 } σ H
theorem ps_frzS {X : Cx} {st : Stmt} {t : TS} (h : PS X st t) : PS X st (tFrzS t) := by
  refine ⟨fun pins s σ H D I q => thn (h.run pins s σ H _ I q) fun f s1 r => ?_⟩
  cases f with
  | next =>
    obtain ⟨σ1, H1, I1, L, q1⟩ := r
    obtain ⟨H2, fz, I2⟩ := Inv.freeze I1 L
    exact ⟨σ1, H2, I2, q1 H2 fz⟩
  | brk => exact r
  | cont => exact r
  | ret u => exact r
section
variable {X : Cx} {k j : Nat} {C : Addr} {x m : Str} {sp : Sp} {dvs : List V} {p pos apos : Pos}
theorem pe_c0 (c : Cal X.prog X.w X.K X.mg X.base k x sp dvs) (hr : Room j X.A) (hk : k ≤ j) (hg : Gl X x) (hdb : (x == ("__debug__" : Str)) = false := by decide) :
    PE X (.Call (.Name x p) [] [] pos) (tCall sp dvs E0 tNil) := by
  obtain ⟨f, fd, ps, ds, F, hm, kp, b, d⟩ := c.ex
  exact pe_call0 F (hr.mono hk) hg hm kp b d pass0 hdb
theorem pe_mk0 (c : Mak X.prog X.w X.K X.mg X.base k x C sp dvs) (hr : Room j X.A) (hk : k + 1 ≤ j) (hg : Gl X x) (hdb : (x == ("__debug__" : Str)) = false := by decide) :
    PE X (.Call (.Name x p) [] [] pos) (tMake C sp dvs E0 tNil) := by
  obtain ⟨f, fd, ps, ds, M, F, hm, b, d⟩ := c.ex
  exact pe_make0 M F (hr.mono hk) hg hm b d pass0 hdb
end
theorem mono_cal {P w K mg base k j x sp dvs} (c : Cal P w K mg base k x sp dvs) (h : k ≤ j) : Cal P w K mg base j x sp dvs := by
  obtain ⟨f, fd, ps, ds, F, r⟩ := c.ex
  exact ⟨f, fd, ps, ds, F.mono h, r⟩
theorem mono_met {P w K mg base k j C m sp dvs} (c : Met P w K mg base k C m sp dvs) (h : k ≤ j) : Met P w K mg base j C m sp dvs := by
  obtain ⟨f, fd, ps, ds, c1, c2, F, r⟩ := c.ex
  exact ⟨f, fd, ps, ds, c1, c2, F.mono h, r⟩
/-! a def of the text by what the head tells -/
section
variable {P : Program} {w : World} {K : PySem.W.Frag} {mg : Str → Option Value} {base : Heap} {x qual : Str} {st : Stmt} {f : Addr} {fd : FuncData} {N ps : List Str} {k : Nat} {sp : Sp}
abbrev FD (K : PySem.W.Frag) (x qual : Str) (st : Stmt) (f : Addr) : Prop := ∃ fd, FunD K x qual (defArgs st) (defBody st) (defScope st) [] [] f fd
theorem fnD (F : FunD K x qual (defArgs st) (defBody st) (defScope st) [] [] f fd) (S : FnScope N ps (defScope st)) (len : ∀ vs H Q E, sp vs H Q E → vs.length = ps.length) {t : TS}
    (hb : ∀ (cdv : Value) (A : Around) (outer : List Env) (s : Shared) (H : Hp) (vs : List V) (Q : VK) (E : XK), Room k (A.deeper (envOfC qual (defScope st) s.heap.objs.size f cdv)) →
      PSs (cxOf CX0 P w K mg base N qual (defScope st) f cdv A outer s H E).nox (defBody st) t)
    (pure_ : ∀ vs H Q E, sp vs H Q E → t { nx := fun _ H' => Q .non H', rt := Q } (start N vs) H) : FnOk P w K mg base CX0 (k + 1) f fd ps sp :=
  FunD.ok F S len fun cdv A outer s H vs Q E hr h => ⟨t, (hb cdv A outer s H vs Q E hr).nox, pure_ vs H Q E h⟩
end
end SD
namespace SD
open PySem PySem.Spec PyProof.Rows L2
abbrev rLenD : List V → Hp → VK → Prop := fun xs H Q => ∃ a kvs, xs = [V.ref a] ∧ H a = some (.dK kvs) ∧ Q (.int kvs.length) H
/-- a op1 b op2 c op3 d -/
def tChain3 (r r' r'' : R2) (ta tb tc td : TE) : TE := fun σ H Q => ta σ H fun x H1 => tb σ H1 fun y H2 => r x y H2 fun z H3 => ∃ k, z = .bl k ∧
  (if k = true then tc σ H3 fun w' H4 => r' y w' H4 (fun z' H5 => ∃ k', z' = .bl k' ∧ (if k' = true then td σ H5 fun u' H6 => r'' w' u' H6 Q else Q (.bl false) H5)) else Q (.bl false) H3)
theorem pt_chain3 {X : Cx} {op op' op'' : CmpOp} {r r' r'' : R2} {a b c d : Expr} {ta tb tc td : TE} {pos : Pos} (ho : OpR X (compareOp op) r) (ho' : OpR X (compareOp op') r') (ho'' : OpR X (compareOp op'') r'') (ha : PE X a ta) (hb : PE X b tb) (hc : PE X c tc) (hd : PE X d td)
    (hm : lastMarks [op, op', op''] [b, c, d] = false := by with_unfolding_all rfl) : PT X (.Compare a [op, op', op''] [b, c, d] pos) (tTest (tChain3 r r' r'' ta tb tc td)) := by
  refine ⟨fun pins s σ H Q I h => ?_⟩
  refine isTrue_chain (thn (ha.run pins s σ H _ I h) fun v s1 ⟨x, H1, I1, r1, q1⟩ => test_link (thn (hb.run pins s1 σ H1 _ I1 q1) fun u s2 ⟨y, H2, I2, r2, q2⟩ =>
    thn (ho pins s2 σ H2 x y v u _ I2 r1 r2 q2) fun d s3 ⟨z, H3, I3, r3, k, e, q3⟩ => ?_)) hm
  subst e
  cases r3
  refine wpAny_truthy_bool ?_
  cases k with
  | false =>
    obtain ⟨k', e', q'⟩ := q3
    cases e'
    exact ite_ff ⟨H3, I3, q'⟩
  | true =>
    refine ite_tt (test_link (thn (hc.run pins s3 σ H3 _ I3 q3) fun w' s4 ⟨z', H4, I4, r4, q4⟩ => thn (ho' pins s4 σ H4 y z' u w' _ I4 r2 r4 q4) fun d5 s5 ⟨z5, H5, I5, r5, k5, e5, q5⟩ => ?_))
    subst e5
    cases r5
    refine wpAny_truthy_bool ?_
    cases k5 with
    | false =>
      obtain ⟨k', e', q'⟩ := q5
      cases e'
      exact ite_ff ⟨H5, I5, q'⟩
    | true =>
      refine ite_tt (test_last (thn (hd.run pins s5 σ H5 _ I5 q5) fun w6 s6 ⟨z6, H6, I6, r6, q6⟩ => thn (ho'' pins s6 σ H6 z' z6 w' w6 _ I6 r4 r6 q6) fun d7 s7 ⟨z7, H7, I7, r7, k7, e7, q7⟩ => ?_))
      subst e7
      cases r7
      exact wpAny_truthy_bool ⟨H7, I7, q7⟩
end SD
/-! S1: programs as data, what is checked of them, their machine. Plain Lean. Own work. -/
set_option linter.all false
namespace SD
inductive Op2 where | add | take | times | less | same deriving DecidableEq, Repr
inductive Pt where
  | num (n : Int) | name (k : Nat) | cell (k : Nat) | two (o : Op2) (a b : Pt)
  deriving DecidableEq, Repr
inductive Dd where
  | set (k : Nat) (x : Pt) | put (c : Nat) (x : Pt) | say (x : Pt) | iff (x : Pt) (a b : List Dd)
  | again (x : Pt) (b : List Dd) | call (f : Nat) (xs : List Pt) (k : Nat) | ret (x : Pt)
  deriving Repr
structure Fn where
  params : Nat
  names : Nat
  body : List Dd
structure Prog where
  cells : List Int
  funs : List Fn
  hands : List Nat
abbrev REST : Int := 10007
/-! sizes, depths, what can be -/
def Pt.sz : Pt → Nat
  | .two _ a b => 1 + a.sz + b.sz
  | _ => 1
def Pt.dp : Pt → Nat
  | .two _ a b => 1 + max a.dp b.dp
  | _ => 1
def Pt.wf (names cells : Nat) : Pt → Bool
  | .num n => decide (0 ≤ n) && decide (n < REST)
  | .name k => decide (k < names)
  | .cell k => decide (k < cells)
  | .two _ a b => a.wf names cells && b.wf names cells
def szPs : List Pt → Nat
  | [] => 0
  | p :: r => p.sz + szPs r
def dpPs : List Pt → Nat
  | [] => 0
  | p :: r => max p.dp (dpPs r)
def wfPs (names cells : Nat) : List Pt → Bool
  | [] => true
  | p :: r => p.wf names cells && wfPs names cells r
mutual
def Dd.sz : Dd → Nat
  | .set _ x => 1 + x.sz | .put _ x => 1 + x.sz | .say x => 1 + x.sz | .iff x a b => 1 + x.sz + szDs a + szDs b
  | .again x b => 1 + x.sz + szDs b | .call _ xs _ => 1 + szPs xs | .ret x => 1 + x.sz
def szDs : List Dd → Nat
  | [] => 0
  | d :: r => d.sz + szDs r
end
mutual
def Dd.dp : Dd → Nat
  | .set _ x => 1 + x.dp | .put _ x => 1 + x.dp | .say x => 1 + x.dp | .iff x a b => 1 + max x.dp (max (dpDs a) (dpDs b))
  | .again x b => 1 + max x.dp (dpDs b) | .call _ xs _ => 1 + dpPs xs | .ret x => 1 + x.dp
def dpDs : List Dd → Nat
  | [] => 0
  | d :: r => max d.dp (dpDs r)
end
mutual
def Dd.wf (names cells : Nat) (params : List Nat) : Dd → Bool
  | .set k x => decide (k < names) && x.wf names cells
  | .put c x => decide (c < cells) && x.wf names cells
  | .say x => x.wf names cells
  | .iff x a b => x.wf names cells && (wfDs names cells params a && wfDs names cells params b)
  | .again x b => x.wf names cells && wfDs names cells params b
  | .call f xs k => decide (params[f]? = some xs.length) && (decide (k < names) && wfPs names cells xs)
  | .ret x => x.wf names cells
def wfDs (names cells : Nat) (params : List Nat) : List Dd → Bool
  | [] => true
  | d :: r => d.wf names cells params && wfDs names cells params r
end
def Prog.params (p : Prog) : List Nat := p.funs.map Fn.params
structure Prog.Wf (p : Prog) : Prop where
  cells1 : 1 ≤ p.cells.length
  cells8 : p.cells.length ≤ 8
  cellsR : ∀ c ∈ p.cells, 0 ≤ c ∧ c < REST
  funs1 : 1 ≤ p.funs.length
  funs4 : p.funs.length ≤ 4
  names : ∀ f ∈ p.funs, f.params ≤ f.names ∧ f.names ≤ 4
  hands1 : 1 ≤ p.hands.length
  hands3 : p.hands.length ≤ 3
  handsR : ∀ h ∈ p.hands, p.params[h]? = some 0
  bodies : ∀ f ∈ p.funs, wfDs f.names p.cells.length p.params f.body = true
  deep : ∀ f ∈ p.funs, dpDs f.body ≤ 8
  size : (p.funs.map fun f => szDs f.body).sum ≤ 100
def Prog.wfb (p : Prog) : Bool :=
  decide (1 ≤ p.cells.length) && (decide (p.cells.length ≤ 8) && (p.cells.all (fun c => decide (0 ≤ c) && decide (c < REST)) && (decide (1 ≤ p.funs.length) && (decide (p.funs.length ≤ 4) &&
  (p.funs.all (fun f => decide (f.params ≤ f.names) && decide (f.names ≤ 4)) && (decide (1 ≤ p.hands.length) && (decide (p.hands.length ≤ 3) && (p.hands.all (fun h => decide (p.params[h]? = some 0)) &&
  (p.funs.all (fun f => wfDs f.names p.cells.length p.params f.body) && (p.funs.all (fun f => decide (dpDs f.body ≤ 8)) && decide ((p.funs.map fun f => szDs f.body).sum ≤ 100)))))))))))
theorem Prog.wf_of {p : Prog} (h : p.wfb = true) : p.Wf := by
  simp only [Prog.wfb, Bool.and_eq_true, decide_eq_true_eq, List.all_eq_true] at h
  obtain ⟨a1, a2, a3, a4, a5, a6, a7, a8, a9, a10, a11, a12⟩ := h
  exact ⟨a1, a2, a3, a4, a5, a6, a7, a8, a9, a10, a11, a12⟩
theorem szPt_pos (p : Pt) : 1 ≤ p.sz := by cases p <;> simp [Pt.sz] <;> omega
theorem szDd_pos (d : Dd) : 1 ≤ d.sz := by cases d <;> simp [Dd.sz] <;> omega

/-! deeds with their places -/
inductive ND where
  | mk (place : Nat) (d : Dd) (inner : List (List ND))
def ND.place : ND → Nat | .mk p _ _ => p
def ND.d : ND → Dd | .mk _ d _ => d
def ND.inner : ND → List (List ND) | .mk _ _ i => i
mutual
def numD : Dd → Nat → ND × Nat
  | .iff x a b, n => let r := numDs a (n + 1); let q := numDs b r.2; (.mk n (.iff x a b) [r.1, q.1], q.2)
  | .again x b, n => let r := numDs b (n + 1); (.mk n (.again x b) [r.1], r.2)
  | .set k x, n => (.mk n (.set k x) [], n + 1)
  | .put k x, n => (.mk n (.put k x) [], n + 1)
  | .say x, n => (.mk n (.say x) [], n + 1)
  | .call f xs k, n => (.mk n (.call f xs k) [], n + 1)
  | .ret x, n => (.mk n (.ret x) [], n + 1)
def numDs : List Dd → Nat → List ND × Nat
  | [], n => ([], n)
  | d :: r, n => let q := numD d n; let s := numDs r q.2; (q.1 :: s.1, s.2)
end
def numFs : List Fn → Nat → List (List ND) × Nat
  | [], n => ([], n)
  | f :: r, n => let q := numDs f.body n; let s := numFs r q.2; (q.1 :: s.1, s.2)
/-! of each place its fun -/
mutual
def Dd.cnt : Dd → Nat
  | .iff _ a b => 1 + cntDs a + cntDs b
  | .again _ b => 1 + cntDs b
  | .set _ _ => 1 | .put _ _ => 1 | .say _ => 1 | .call _ _ _ => 1 | .ret _ => 1
def cntDs : List Dd → Nat
  | [] => 0
  | d :: r => d.cnt + cntDs r
end
def plFuns : List Fn → Nat → List Nat
  | [], _ => []
  | f :: r, i => List.replicate (cntDs f.body) i ++ plFuns r (i + 1)
def Prog.nbodies (p : Prog) : List (List ND) := (numFs p.funs 0).1
def Prog.pfuns (p : Prog) : List Nat := plFuns p.funs 0

/-! what parts come to -/
def Op2.ev (o : Op2) (i j : Int) : Int := match o with
  | .add => (i + j) % REST | .take => (i - j) % REST | .times => (i * j) % REST
  | .less => if i < j then 1 else 0 | .same => if i = j then 1 else 0
def Pt.ev (names cells : List Int) : Pt → Int
  | .num n => n
  | .name k => names.getD k 0
  | .cell k => cells.getD k 0
  | .two o a b => o.ev (a.ev names cells) (b.ev names cells)

/-! the machine -/
inductive Task where
  | body (b : List ND) | deed (d : ND) | loop (n : Nat) (b : List ND) | into (k : Nat)
structure Fr where
  fn : Nat
  names : List Int
  todo : List Task      -- the next first
  at_ : Option Nat
structure Mach where
  bodies : List (List ND)
  heads : List (Nat × Nat)
  held : List Int
  hands : List (List Fr)   -- the innermost first
  whose : Nat
  talk : List (Nat × Int)
  done : Nat
  pf : List Nat
def setAt (xs : List Int) (k : Nat) (v : Int) : List Int := xs.set k v
/-- a fun ends, and tells a number: the frame under it -/
def backF (v : Int) : List Fr → List Fr
  | [] => []
  | f :: r => (match f.todo with
    | .into k :: t => { f with todo := t, names := f.names.set k v } :: r
    | _ => f :: r)
def unfoldT : Task → List Task → List Task
  | .body b, t => b.map Task.deed ++ t
  | .loop 0 _, t => t
  | .loop (n + 1) b, t => .body b :: .loop n b :: t
  | x, t => x :: t
/-- one turn of settle; none: settled -/
def settle1 : List Fr → Option (List Fr)
  | [] => none
  | f :: r => match f.todo with
    | [] => some (backF 0 r)
    | .deed _ :: _ => none
    | t :: ts => some ({ f with todo := unfoldT t ts } :: r)
def Task.wt : Task → Nat
  | .body _ => 1 | .deed _ => 0 | .loop n _ => 2 * n + 1 | .into _ => 1
def wtT : List Task → Nat
  | [] => 0
  | t :: r => t.wt + wtT r
def wtF : List Fr → Nat
  | [] => 0
  | f :: r => 1 + wtT f.todo + wtF r
def settleN : Nat → List Fr → List Fr
  | 0, fs => fs
  | n + 1, fs => match settle1 fs with
    | none => fs
    | some fs' => settleN n fs'
def settle (fs : List Fr) : List Fr := settleN (wtF fs) fs
def Mach.isOver (m : Mach) : Bool := m.hands.all (·.isEmpty)
def seekN : Nat → List (List Fr) → Nat → Nat
  | 0, _, w => w
  | n + 1, hs, w => seekN n hs (if (hs.getD w []).isEmpty then (w + 1) % hs.length else w)
def seek (hs : List (List Fr)) (w : Nat) : Nat := seekN hs.length hs w
def mkFrame (bodies : List (List ND)) (heads : List (Nat × Nat)) (f : Nat) (ws : List Int) : Fr :=
  ⟨f, ws ++ List.replicate ((heads.getD f (0, 0)).2 - ws.length) 0, [.body (bodies.getD f [])], none⟩
def Prog.heads (p : Prog) : List (Nat × Nat) := p.funs.map fun f => (f.params, f.names)
def Prog.mach (p : Prog) : Mach :=
  let hs := p.hands.map fun f => settle [mkFrame p.nbodies p.heads f []]
  ⟨p.nbodies, p.heads, p.cells, hs, seek hs 0, [], 0, p.pfuns⟩
/-- what a deed does to its hand's frames, cells, talk (before settle) -/
def doDeed (m : Mach) (me : Nat) (f : Fr) (r : List Fr) (d : ND) : List Fr × List Int × List (Nat × Int) :=
  match d.d with
  | .set k x => ({ f with names := f.names.set k (x.ev f.names m.held) } :: r, m.held, m.talk)
  | .put c x => (f :: r, m.held.set c (x.ev f.names m.held), m.talk)
  | .say x => (f :: r, m.held, m.talk ++ [(me, x.ev f.names m.held)])
  | .iff x _ _ => ({ f with todo := .body (d.inner.getD (if x.ev f.names m.held = 0 then 1 else 0) []) :: f.todo } :: r, m.held, m.talk)
  | .again x _ => ({ f with todo := .loop (x.ev f.names m.held % 10).toNat (d.inner.getD 0 []) :: f.todo } :: r, m.held, m.talk)
  | .call g xs k => if r.length + 1 = 20 then ({ f with names := f.names.set k 0 } :: r, m.held, m.talk)
      else (mkFrame m.bodies m.heads g (xs.map (·.ev f.names m.held)) :: { f with todo := .into k :: f.todo } :: r, m.held, m.talk)
  | .ret x => (backF (x.ev f.names m.held) r, m.held, m.talk)
def Mach.deed (m : Mach) : Mach :=
  match m.hands.getD m.whose [] with
  | f :: r => (match f.todo with
    | .deed d :: t =>
      let x := doDeed m m.whose { f with todo := t, at_ := some d.place } r d
      let hs := m.hands.set m.whose (settle x.1)
      { m with hands := hs, held := x.2.1, talk := x.2.2, done := m.done + 1, whose := seek hs ((m.whose + 1) % hs.length) }
    | _ => m)
  | [] => m
def runN : Nat → Mach → Mach
  | 0, m => m
  | n + 1, m => if m.isOver then m else runN n m.deed
end SD
set_option Elab.async false
set_option linter.all false
set_option maxRecDepth 100000
set_option maxHeartbeats 2000000
namespace SD
open PySem PySem.Spec PyProof.Rows L2
open C8 (Cal Met Mak pe_c pe_mk pe_mt pe_mt0 pe_gc)
/-! ### what never changes is kept -/
structure Imm (H H' : Hp) : Prop where
  tup : ∀ a xs, H a = some (.tup xs) → H' a = some (.tup xs)
  frz : ∀ a o u, H a = some (.frz o u) → H' a = some (.frz o u)
theorem Imm.refl (H : Hp) : Imm H H := ⟨fun _ _ h => h, fun _ _ _ h => h⟩
theorem Imm.trans {H1 H2 H3 : Hp} (a : Imm H1 H2) (b : Imm H2 H3) : Imm H1 H3 := ⟨fun x y h => b.tup x y (a.tup x y h), fun x y z h => b.frz x y z (a.frz x y z h)⟩
theorem Imm.new {H : Hp} {p : Addr} {o : HO} (h : H p = none) : Imm H (upd H p o) :=
  ⟨fun a xs e => by rw [upd_ne (ne_of_none e h)]; exact e, fun a u v e => by rw [upd_ne (ne_of_none e h)]; exact e⟩
def isMut : HO → Bool
  | .tup _ => false
  | .frz _ _ => false
  | _ => true
theorem Imm.upd {H : Hp} {p : Addr} {o o' : HO} (h : H p = some o) (m : isMut o = true) : Imm H (upd H p o') :=
  ⟨fun a xs e => by rw [upd_ne (fun z => by subst z; rw [h] at e; cases e; cases m)]; exact e, fun a u v e => by rw [upd_ne (fun z => by subst z; rw [h] at e; cases e; cases m)]; exact e⟩
theorem Imm.frzd {L : Addr → Prop} {H H' : Hp} (f : Frzd L H H') : Imm H H' := by
  refine ⟨fun a xs e => ?_, fun a u v e => ?_⟩
  · rcases f a with h | ⟨_, ys, o, h, _⟩
    · rw [h.1]; exact e
    · rw [e] at h; cases h
  · rcases f a with h | ⟨_, ys, o, h, _⟩
    · rw [h.1]; exact e
    · rw [e] at h; cases h
theorem pull_perm {α : Type} : ∀ {l : List α} {i : Nat} (h : i < l.length), (l[i] :: l.eraseIdx i).Perm l
  | a :: l, 0, _ => List.Perm.refl _
  | a :: l, i + 1, h => ((List.Perm.swap _ _ _).trans ((pull_perm (l := l) (i := i) (by simpa using h)).cons a))
theorem Imm.same {H H' : Hp} (s : Same H H') : Imm H H' := ⟨fun a xs e => s _ _ e, fun a o u e => s _ _ e⟩
/-- a list that is locked, or of the top -/
def SqF (K : PySem.W.Frag) (H : Hp) (a : Addr) (xs : List V) : Prop := (∃ o, H a = some (.frz o (.lst xs))) ∨
    ∃ (o : Obj) (its : Array Value) (n : Nat), K.lookup a = some o ∧ o.cls = .type "list" ∧ o.dict = none ∧ o.data = .seq its n ∧ its.size ≤ sizeLine ∧ Vals xs its.toList
theorem SqF.l {K : PySem.W.Frag} {H : Hp} {a : Addr} {xs : List V} (h : SqF K H a xs) : SqL K H a xs := by
  rcases h with h | h
  · exact .inl (.inr h)
  · exact .inr h
section
variable {K : PySem.W.Frag} {H H' : Hp}
theorem Imm.f (i : Imm H H') {a : Addr} {xs : List V} (h : SqF K H a xs) : SqF K H' a xs := by
  rcases h with ⟨o, h⟩ | h
  · exact .inl ⟨o, i.frz _ _ _ h⟩
  · exact .inr h
theorem Imm.t (i : Imm H H') {a : Addr} {xs : List V} (h : SqT K H a xs) : SqT K H' a xs := by
  rcases h with (h | ⟨o, h⟩) | h
  · exact .inl (.inl (i.tup _ _ h))
  · exact .inl (.inr ⟨o, i.frz _ _ _ h⟩)
  · exact .inr h
theorem sqf_of {L : Addr → Prop} (f : Frzd L H H') {a : Addr} {xs : List V} (hL : L a) (h : H a = some (.lst xs)) : SqF K H' a xs := by
  rcases f a with ⟨_, z⟩ | ⟨_, ys, o, e, q⟩
  · exact absurd h (z hL xs)
  · rw [h] at e; cases e; exact .inl ⟨o, q⟩
/-! ### what is held: addresses, all unlike, and what stands there -/
structure Holds (H : Hp) (L : List (Addr × HO)) : Prop where
  nd : (L.map (·.1)).Nodup
  at_ : ∀ p ∈ L, H p.1 = some p.2
variable {L L' : List (Addr × HO)} {a p : Addr} {o o' : HO}
theorem Holds.perm (h : Holds H L) (q : L.Perm L') : Holds H L' := ⟨(q.map _).nodup_iff.mp h.nd, fun p m => h.at_ p (q.mem_iff.mpr m)⟩
theorem Holds.get (h : Holds H L) (m : (a, o) ∈ L) : H a = some o := h.at_ _ m
theorem Holds.nil : Holds H [] := ⟨List.nodup_nil, fun p m => nomatch m⟩
theorem Holds.tail {x : Addr × HO} (h : Holds H (x :: L)) : Holds H L := ⟨(List.nodup_cons.mp h.nd).2, fun p m => h.at_ p (List.mem_cons_of_mem _ m)⟩
theorem Holds.head (h : Holds H ((a, o) :: L)) : H a = some o := h.at_ _ (List.mem_cons_self ..)
theorem Holds.upd (h : Holds H ((a, o) :: L)) : Holds (upd H a o') ((a, o') :: L) := by
  obtain ⟨n1, n2⟩ := List.nodup_cons.mp h.nd
  refine ⟨List.nodup_cons.mpr ⟨n1, n2⟩, fun q m => ?_⟩
  rcases List.mem_cons.mp m with e | m
  · subst e; exact upd_same
  · rw [upd_ne (fun z => n1 (List.mem_map.mpr ⟨q, m, z⟩))]; exact h.at_ _ (List.mem_cons_of_mem _ m)
theorem Holds.skip (h : Holds H L) (n : H p = none) : Holds (L2.upd H p o) L :=
  ⟨h.nd, fun q m => by rw [upd_ne (ne_of_none (h.at_ q m) n)]; exact h.at_ q m⟩
theorem Holds.new (h : Holds H L) (n : H p = none) : Holds (L2.upd H p o) ((p, o) :: L) := by
  refine ⟨List.nodup_cons.mpr ⟨fun m => ?_, h.nd⟩, fun q m => ?_⟩
  · obtain ⟨x, m1, e⟩ := List.mem_map.mp m
    have := h.at_ x m1
    rw [e, n] at this; cases this
  · rcases List.mem_cons.mp m with e | m
    · subst e; exact upd_same
    · rw [upd_ne (ne_of_none (h.at_ q m) n)]; exact h.at_ q m
theorem Holds.pull (h : Holds H L) (i : Nat) {x : Addr × HO} (e : L[i]? = some x) : Holds H (x :: L.eraseIdx i) := by
  refine h.perm ?_
  obtain ⟨hi, e⟩ := List.getElem?_eq_some_iff.mp e
  rw [← e]
  exact (pull_perm hi).symm
theorem Holds.set (h : Holds H L) (i : Nat) (e : L[i]? = some (a, o)) : Holds (L2.upd H a o') (L.set i (a, o')) := by
  obtain ⟨hi, e⟩ := List.getElem?_eq_some_iff.mp e
  have h1 := h.pull i (x := (a, o)) (by rw [List.getElem?_eq_getElem hi, e])
  refine (h1.upd (o' := o')).perm ?_
  have : (L.set i (a, o'))[i]'(by rw [List.length_set]; exact hi) = (a, o') := by simp
  have q := pull_perm (l := L.set i (a, o')) (i := i) (by rw [List.length_set]; exact hi)
  rw [this, List.eraseIdx_set_eq] at q
  exact q
theorem Holds.app (h : Holds H (L ++ L')) : Holds H (L' ++ L) := h.perm List.perm_append_comm
theorem Holds.right (h : Holds H (L ++ L')) : Holds H L' := ⟨(List.nodup_append.mp (by have := h.nd; rwa [List.map_append] at this)).2.1, fun p m => h.at_ p (List.mem_append_right _ m)⟩
theorem Holds.left (h : Holds H (L ++ L')) : Holds H L := h.app.right
theorem Holds.frzd {F : Addr → Prop} (h : Holds H L) (f : Frzd F H H') (n : ∀ p ∈ L, ¬ F p.1) : Holds H' L :=
  ⟨h.nd, fun p m => by
    rcases f p.1 with q | ⟨q, _⟩
    · rw [q.1]; exact h.at_ p m
    · exact absurd q (n p m)⟩
theorem Holds.ne {b : Addr} {u : HO} (h : Holds H ((a, o) :: L)) (m : (b, u) ∈ L) : a ≠ b := fun e => (List.nodup_cons.mp h.nd).1 (List.mem_map.mpr ⟨_, m, e.symm⟩)
theorem Holds.imm (h : Holds H ((a, o) :: L)) (m : isMut o = true) : Imm H (L2.upd H a o') := .upd h.head m
end

/-! ### values -/
def Op2.str : Op2 → Str
  | .add => "add" | .take => "take" | .times => "times" | .less => "less" | .same => "same"
section
variable (K : PySem.W.Frag) (H : Hp)
def PtAt : Pt → V → Prop
  | .num n, v => ∃ a, v = .ref a ∧ SqT K H a [.str "num", .int n]
  | .name k, v => ∃ a, v = .ref a ∧ SqT K H a [.str "name", .int (k : Nat)]
  | .cell k, v => ∃ a, v = .ref a ∧ SqT K H a [.str "cell", .int (k : Nat)]
  | .two o x y, v => ∃ a vx vy, v = .ref a ∧ SqT K H a [.str o.str, vx, vy] ∧ PtAt x vx ∧ PtAt y vy
def PtsAt : List Pt → List V → Prop
  | [], vs => vs = []
  | p :: r, vs => ∃ v t, vs = v :: t ∧ PtAt K H p v ∧ PtsAt r t
mutual
def DdAt : Dd → V → Prop
  | .set k x, v => ∃ a vx, v = .ref a ∧ SqT K H a [.str "set", .int (k : Nat), vx] ∧ PtAt K H x vx
  | .put k x, v => ∃ a vx, v = .ref a ∧ SqT K H a [.str "put", .int (k : Nat), vx] ∧ PtAt K H x vx
  | .say x, v => ∃ a vx, v = .ref a ∧ SqT K H a [.str "say", vx] ∧ PtAt K H x vx
  | .iff x b c, v => ∃ a vx vb vc bs cs, v = .ref a ∧ SqT K H a [.str "if", vx, .ref vb, .ref vc] ∧ PtAt K H x vx ∧ SqT K H vb bs ∧ DdsAt b bs ∧ SqT K H vc cs ∧ DdsAt c cs
  | .again x b, v => ∃ a vx vb bs, v = .ref a ∧ SqT K H a [.str "again", vx, .ref vb] ∧ PtAt K H x vx ∧ SqT K H vb bs ∧ DdsAt b bs
  | .call f xs k, v => ∃ a vp ps, v = .ref a ∧ SqT K H a [.str "call", .int (f : Nat), .ref vp, .int (k : Nat)] ∧ SqT K H vp ps ∧ PtsAt K H xs ps
  | .ret x, v => ∃ a vx, v = .ref a ∧ SqT K H a [.str "return", vx] ∧ PtAt K H x vx
def DdsAt : List Dd → List V → Prop
  | [], vs => vs = []
  | d :: r, vs => ∃ v t, vs = v :: t ∧ DdAt d v ∧ DdsAt r t
end
def BodyAt (b : List Dd) (v : V) : Prop := ∃ a vs, v = .ref a ∧ SqT K H a vs ∧ DdsAt K H b vs
def FnAt (f : Fn) (v : V) : Prop := ∃ a vb, v = .ref a ∧ SqT K H a [.int (f.params : Nat), .int (f.names : Nat), vb] ∧ BodyAt K H f.body vb
def FnsAt : List Fn → List V → Prop
  | [], vs => vs = []
  | f :: r, vs => ∃ v t, vs = v :: t ∧ FnAt K H f v ∧ FnsAt r t
def ProgAt (p : Prog) (v : V) : Prop := ∃ a c f h fs, v = .ref a ∧ SqT K H a [.ref c, .ref f, .ref h] ∧ SqT K H c (p.cells.map V.int) ∧ SqT K H f fs ∧ FnsAt K H p.funs fs ∧ SqT K H h (p.hands.map fun n => V.int (n : Nat))
mutual
def NDAt : ND → V → Prop
  | .mk p d i, v => ∃ a vd vi is, v = .ref a ∧ SqT K H a [.int (p : Nat), vd, .ref vi] ∧ DdAt K H d vd ∧ SqF K H vi is ∧ NBsAt i is
def NDsAt : List ND → List V → Prop
  | [], vs => vs = []
  | d :: r, vs => ∃ v t, vs = v :: t ∧ NDAt d v ∧ NDsAt r t
def NBsAt : List (List ND) → List V → Prop
  | [], vs => vs = []
  | b :: r, vs => ∃ a xs t, vs = .ref a :: t ∧ SqF K H a xs ∧ NDsAt b xs ∧ NBsAt r t
end
def NBAt (b : List ND) (v : V) : Prop := ∃ a xs, v = .ref a ∧ SqF K H a xs ∧ NDsAt K H b xs
end
section
variable {K : PySem.W.Frag} {H H' : Hp}
theorem PtAt.mono (i : Imm H H') : ∀ {p : Pt} {v : V}, PtAt K H p v → PtAt K H' p v
  | .num n, v, ⟨a, e, h⟩ => ⟨a, e, i.t h⟩
  | .name n, v, ⟨a, e, h⟩ => ⟨a, e, i.t h⟩
  | .cell n, v, ⟨a, e, h⟩ => ⟨a, e, i.t h⟩
  | .two o x y, v, ⟨a, vx, vy, e, h, h1, h2⟩ => ⟨a, vx, vy, e, i.t h, PtAt.mono i h1, PtAt.mono i h2⟩
theorem PtsAt.mono (i : Imm H H') : ∀ {p : List Pt} {v : List V}, PtsAt K H p v → PtsAt K H' p v
  | [], v, h => h
  | p :: r, v, ⟨a, t, e, h, h1⟩ => ⟨a, t, e, h.mono i, PtsAt.mono i h1⟩
mutual
theorem DdAt.mono (i : Imm H H') : ∀ {d : Dd} {v : V}, DdAt K H d v → DdAt K H' d v
  | .set k x, v, ⟨a, vx, e, h, h1⟩ => ⟨a, vx, e, i.t h, h1.mono i⟩
  | .put k x, v, ⟨a, vx, e, h, h1⟩ => ⟨a, vx, e, i.t h, h1.mono i⟩
  | .say x, v, ⟨a, vx, e, h, h1⟩ => ⟨a, vx, e, i.t h, h1.mono i⟩
  | .iff x b c, v, ⟨a, vx, vb, vc, bs, cs, e, h, h1, h2, h3, h4, h5⟩ => ⟨a, vx, vb, vc, bs, cs, e, i.t h, h1.mono i, i.t h2, DdsAt.mono i h3, i.t h4, DdsAt.mono i h5⟩
  | .again x b, v, ⟨a, vx, vb, bs, e, h, h1, h2, h3⟩ => ⟨a, vx, vb, bs, e, i.t h, h1.mono i, i.t h2, DdsAt.mono i h3⟩
  | .call f xs k, v, ⟨a, vp, ps, e, h, h1, h2⟩ => ⟨a, vp, ps, e, i.t h, i.t h1, h2.mono i⟩
  | .ret x, v, ⟨a, vx, e, h, h1⟩ => ⟨a, vx, e, i.t h, h1.mono i⟩
theorem DdsAt.mono (i : Imm H H') : ∀ {d : List Dd} {v : List V}, DdsAt K H d v → DdsAt K H' d v
  | [], v, h => h
  | d :: r, v, ⟨a, t, e, h, h1⟩ => ⟨a, t, e, DdAt.mono i h, DdsAt.mono i h1⟩
end
theorem BodyAt.mono (i : Imm H H') {b : List Dd} {v : V} : BodyAt K H b v → BodyAt K H' b v
  | ⟨a, vs, e, h, h1⟩ => ⟨a, vs, e, i.t h, h1.mono i⟩
theorem FnAt.mono (i : Imm H H') {b : Fn} {v : V} : FnAt K H b v → FnAt K H' b v
  | ⟨a, vs, e, h, h1⟩ => ⟨a, vs, e, i.t h, h1.mono i⟩
theorem FnsAt.mono (i : Imm H H') : ∀ {d : List Fn} {v : List V}, FnsAt K H d v → FnsAt K H' d v
  | [], v, h => h
  | d :: r, v, ⟨a, t, e, h, h1⟩ => ⟨a, t, e, FnAt.mono i h, FnsAt.mono i h1⟩
theorem ProgAt.mono (i : Imm H H') {p : Prog} {v : V} : ProgAt K H p v → ProgAt K H' p v
  | ⟨a, c, f, h, fs, e, h1, h2, h3, h4, h5⟩ => ⟨a, c, f, h, fs, e, i.t h1, i.t h2, i.t h3, h4.mono i, i.t h5⟩
mutual
theorem NDAt.mono (i : Imm H H') : ∀ {d : ND} {v : V}, NDAt K H d v → NDAt K H' d v
  | .mk p d j, v, ⟨a, vd, vi, is, e, h, h1, h2, h3⟩ => ⟨a, vd, vi, is, e, i.t h, h1.mono i, i.f h2, NBsAt.mono i h3⟩
theorem NDsAt.mono (i : Imm H H') : ∀ {d : List ND} {v : List V}, NDsAt K H d v → NDsAt K H' d v
  | [], v, h => h
  | d :: r, v, ⟨a, t, e, h, h1⟩ => ⟨a, t, e, NDAt.mono i h, NDsAt.mono i h1⟩
theorem NBsAt.mono (i : Imm H H') : ∀ {d : List (List ND)} {v : List V}, NBsAt K H d v → NBsAt K H' d v
  | [], v, h => h
  | b :: r, v, ⟨a, xs, t, e, h, h1, h2⟩ => ⟨a, xs, t, e, i.f h, NDsAt.mono i h1, NBsAt.mono i h2⟩
end
theorem NBAt.mono (i : Imm H H') {b : List ND} {v : V} : NBAt K H b v → NBAt K H' b v
  | ⟨a, xs, e, h, h1⟩ => ⟨a, xs, e, i.f h, h1.mono i⟩
/-! lists of such, by place -/
theorem PtsAt.len : ∀ {p : List Pt} {v : List V}, PtsAt K H p v → v.length = p.length
  | [], v, h => by rw [show v = [] from h]; rfl
  | p :: r, v, ⟨a, t, e, h, h1⟩ => by rw [e, List.length_cons, List.length_cons, PtsAt.len h1]
theorem PtsAt.get : ∀ {p : List Pt} {v : List V} {i : Nat} {x : V}, PtsAt K H p v → v[i]? = some x → ∃ q, p[i]? = some q ∧ PtAt K H q x
  | [], v, i, x, h, e => by rw [show v = [] from h] at e; simp at e
  | p :: r, v, 0, x, ⟨a, t, e, h, h1⟩, e2 => by rw [e] at e2; simp at e2; subst e2; exact ⟨p, rfl, h⟩
  | p :: r, v, i + 1, x, ⟨a, t, e, h, h1⟩, e2 => by rw [e] at e2; exact PtsAt.get (i := i) h1 (by simpa using e2)
theorem DdsAt.len : ∀ {p : List Dd} {v : List V}, DdsAt K H p v → v.length = p.length
  | [], v, h => by rw [show v = [] from h]; rfl
  | p :: r, v, ⟨a, t, e, h, h1⟩ => by rw [e, List.length_cons, List.length_cons, DdsAt.len h1]
theorem DdsAt.get : ∀ {p : List Dd} {v : List V} {i : Nat} {x : V}, DdsAt K H p v → v[i]? = some x → ∃ q, p[i]? = some q ∧ DdAt K H q x
  | [], v, i, x, h, e => by rw [show v = [] from h] at e; simp at e
  | p :: r, v, 0, x, ⟨a, t, e, h, h1⟩, e2 => by rw [e] at e2; simp at e2; subst e2; exact ⟨p, rfl, h⟩
  | p :: r, v, i + 1, x, ⟨a, t, e, h, h1⟩, e2 => by rw [e] at e2; exact DdsAt.get (i := i) h1 (by simpa using e2)
theorem FnsAt.len : ∀ {p : List Fn} {v : List V}, FnsAt K H p v → v.length = p.length
  | [], v, h => by rw [show v = [] from h]; rfl
  | p :: r, v, ⟨a, t, e, h, h1⟩ => by rw [e, List.length_cons, List.length_cons, FnsAt.len h1]
theorem FnsAt.get : ∀ {p : List Fn} {v : List V} {i : Nat} {x : V}, FnsAt K H p v → v[i]? = some x → ∃ q, p[i]? = some q ∧ FnAt K H q x
  | [], v, i, x, h, e => by rw [show v = [] from h] at e; simp at e
  | p :: r, v, 0, x, ⟨a, t, e, h, h1⟩, e2 => by rw [e] at e2; simp at e2; subst e2; exact ⟨p, rfl, h⟩
  | p :: r, v, i + 1, x, ⟨a, t, e, h, h1⟩, e2 => by rw [e] at e2; exact FnsAt.get (i := i) h1 (by simpa using e2)
theorem NDsAt.len : ∀ {p : List ND} {v : List V}, NDsAt K H p v → v.length = p.length
  | [], v, h => by rw [show v = [] from h]; rfl
  | p :: r, v, ⟨a, t, e, h, h1⟩ => by rw [e, List.length_cons, List.length_cons, NDsAt.len h1]
theorem NDsAt.app : ∀ {p q : List ND} {v u : List V}, NDsAt K H p v → NDsAt K H q u → NDsAt K H (p ++ q) (v ++ u)
  | [], q, v, u, h, h2 => by rw [show v = [] from h]; exact h2
  | p :: r, q, v, u, ⟨a, t, e, h, h1⟩, h2 => ⟨a, t ++ u, by rw [e]; rfl, h, NDsAt.app h1 h2⟩
theorem NBsAt.app : ∀ {p q : List (List ND)} {v u : List V}, NBsAt K H p v → NBsAt K H q u → NBsAt K H (p ++ q) (v ++ u)
  | [], q, v, u, h, h2 => by rw [show v = [] from h]; exact h2
  | p :: r, q, v, u, ⟨a, xs, t, e, h, h1, h3⟩, h2 => ⟨a, xs, t ++ u, by rw [e]; rfl, h, h1, NBsAt.app h3 h2⟩
theorem NBsAt.len : ∀ {p : List (List ND)} {v : List V}, NBsAt K H p v → v.length = p.length
  | [], v, h => by rw [show v = [] from h]; rfl
  | p :: r, v, ⟨a, xs, t, e, h, h1, h3⟩ => by rw [e, List.length_cons, List.length_cons, NBsAt.len h3]
theorem NBsAt.get : ∀ {p : List (List ND)} {v : List V} {i : Nat} {x : V}, NBsAt K H p v → v[i]? = some x → ∃ q, p[i]? = some q ∧ NBAt K H q x
  | [], v, i, x, h, e => by rw [show v = [] from h] at e; simp at e
  | p :: r, v, 0, x, ⟨a, xs, t, e, h, h1, h3⟩, e2 => by rw [e] at e2; simp at e2; subst e2; exact ⟨p, rfl, a, xs, rfl, h, h1⟩
  | p :: r, v, i + 1, x, ⟨a, xs, t, e, h, h1, h3⟩, e2 => by rw [e] at e2; exact NBsAt.get (i := i) h3 (by simpa using e2)
end
end SD
set_option Elab.async false
set_option linter.all false
set_option maxRecDepth 100000
namespace SD
open PySem PySem.Spec PyProof.Rows L2
def flLooker (v0 v1 v2 v3 : V) : List (Str × V) := [("many", v0), ("params", v1), ("names", v2), ("seen", v3)]
section
variable {v0 v1 v2 v3 x : V}
theorem lkLooker_many : (flLooker v0 v1 v2 v3).lookup ("many" : Str) = some v0 := by kernel_rfl
theorem ptLooker_many : putF "many" x (flLooker v0 v1 v2 v3) = flLooker x v1 v2 v3 := by kernel_rfl
theorem lkLooker_params : (flLooker v0 v1 v2 v3).lookup ("params" : Str) = some v1 := by kernel_rfl
theorem ptLooker_params : putF "params" x (flLooker v0 v1 v2 v3) = flLooker v0 x v2 v3 := by kernel_rfl
theorem lkLooker_names : (flLooker v0 v1 v2 v3).lookup ("names" : Str) = some v2 := by kernel_rfl
theorem ptLooker_names : putF "names" x (flLooker v0 v1 v2 v3) = flLooker v0 v1 x v3 := by kernel_rfl
theorem lkLooker_seen : (flLooker v0 v1 v2 v3).lookup ("seen" : Str) = some v3 := by kernel_rfl
theorem ptLooker_seen : putF "seen" x (flLooker v0 v1 v2 v3) = flLooker v0 v1 v2 x := by kernel_rfl
theorem inLooker : (putF "seen" v3 (putF "names" v2 (putF "params" v1 (putF "many" v0 ([] : List (Str × V)))))) = flLooker v0 v1 v2 v3 := by kernel_rfl
theorem lenLooker : (flLooker v0 v1 v2 v3).length < 1000 := by show 4 < 1000; decide
theorem nmLooker_begin : (flLooker v0 v1 v2 v3).lookup ("begin" : Str) = none := by kernel_rfl
theorem nmLooker_bounds : (flLooker v0 v1 v2 v3).lookup ("bounds" : Str) = none := by kernel_rfl
theorem nmLooker_part : (flLooker v0 v1 v2 v3).lookup ("part" : Str) = none := by kernel_rfl
theorem nmLooker_body : (flLooker v0 v1 v2 v3).lookup ("body" : Str) = none := by kernel_rfl
end
def flReader (v0 v1 : V) : List (Str × V) := [("words", v0), ("at", v1)]
section
variable {v0 v1 x : V}
theorem lkReader_words : (flReader v0 v1).lookup ("words" : Str) = some v0 := by kernel_rfl
theorem ptReader_words : putF "words" x (flReader v0 v1) = flReader x v1 := by kernel_rfl
theorem lkReader_at : (flReader v0 v1).lookup ("at" : Str) = some v1 := by kernel_rfl
theorem ptReader_at : putF "at" x (flReader v0 v1) = flReader v0 x := by kernel_rfl
theorem inReader : (putF "at" v1 (putF "words" v0 ([] : List (Str × V)))) = flReader v0 v1 := by kernel_rfl
theorem lenReader : (flReader v0 v1).length < 1000 := by show 2 < 1000; decide
theorem nmReader_word : (flReader v0 v1).lookup ("word" : Str) = none := by kernel_rfl
theorem nmReader_number : (flReader v0 v1).lookup ("number" : Str) = none := by kernel_rfl
theorem nmReader_numbers : (flReader v0 v1).lookup ("numbers" : Str) = none := by kernel_rfl
theorem nmReader_part : (flReader v0 v1).lookup ("part" : Str) = none := by kernel_rfl
theorem nmReader_piece : (flReader v0 v1).lookup ("piece" : Str) = none := by kernel_rfl
theorem nmReader_body : (flReader v0 v1).lookup ("body" : Str) = none := by kernel_rfl
end
structure Fcts (K : PySem.W.Frag) : Prop where
  clLooker : Cls K (He.ga K "Looker")
  naLooker_many : NoAttr K (He.ga K "Looker") "many"
  naLooker_params : NoAttr K (He.ga K "Looker") "params"
  naLooker_names : NoAttr K (He.ga K "Looker") "names"
  naLooker_seen : NoAttr K (He.ga K "Looker") "seen"
  clReader : Cls K (He.ga K "Reader")
  naReader_words : NoAttr K (He.ga K "Reader") "words"
  naReader_at : NoAttr K (He.ga K "Reader") "at"
def xfLooker_many (K : PySem.W.Frag) (ta : TE) : TE := fun σ H Q => ta σ H fun x H1 => ∃ a dx v0 v1 v2 v3, x = .ref a ∧ H1 a = some (.ins (He.ga K "Looker") dx (flLooker v0 v1 v2 v3)) ∧ Q v0 H1
theorem pe_xfLooker_many {X : Cx} {e : Expr} {ta : TE} {pos : Pos} (F : Fcts X.K) (he : PE X e ta) (hb : attributeBase e "many" X.env (eval e X.env) = eval e X.env) : PE X (.Attribute e "many" pos) (xfLooker_many X.K ta) := by
  refine ⟨fun pins s σ H Q I h => ?_⟩
  refine attr_of hb (thn (he.run pins s σ H _ I h) fun u s1 ⟨x, H1, I1, rx, a, dx, v0, v1, v2, v3, ex, ea, q⟩ => ?_)
  subst ex
  obtain rfl : u = Value.ref a := rx
  exact getattr_ok I1 ea F.clLooker F.naLooker_many lkLooker_many fun u2 s2 I2 ru => ⟨_, H1, I2, ru, q⟩
def xsLooker_many (K : PySem.W.Frag) (ta tv : TE) : TS := fun D σ H => tv σ H fun y H1 => ta σ H1 fun x H2 => ∃ a dx v0 v1 v2 v3, x = .ref a ∧ H2 a = some (.ins (He.ga K "Looker") dx (flLooker v0 v1 v2 v3)) ∧ D.nx σ (upd H2 a (.ins (He.ga K "Looker") dx (flLooker y v1 v2 v3)))
def xfLooker_params (K : PySem.W.Frag) (ta : TE) : TE := fun σ H Q => ta σ H fun x H1 => ∃ a dx v0 v1 v2 v3, x = .ref a ∧ H1 a = some (.ins (He.ga K "Looker") dx (flLooker v0 v1 v2 v3)) ∧ Q v1 H1
theorem pe_xfLooker_params {X : Cx} {e : Expr} {ta : TE} {pos : Pos} (F : Fcts X.K) (he : PE X e ta) (hb : attributeBase e "params" X.env (eval e X.env) = eval e X.env) : PE X (.Attribute e "params" pos) (xfLooker_params X.K ta) := by
  refine ⟨fun pins s σ H Q I h => ?_⟩
  refine attr_of hb (thn (he.run pins s σ H _ I h) fun u s1 ⟨x, H1, I1, rx, a, dx, v0, v1, v2, v3, ex, ea, q⟩ => ?_)
  subst ex
  obtain rfl : u = Value.ref a := rx
  exact getattr_ok I1 ea F.clLooker F.naLooker_params lkLooker_params fun u2 s2 I2 ru => ⟨_, H1, I2, ru, q⟩
def xsLooker_params (K : PySem.W.Frag) (ta tv : TE) : TS := fun D σ H => tv σ H fun y H1 => ta σ H1 fun x H2 => ∃ a dx v0 v1 v2 v3, x = .ref a ∧ H2 a = some (.ins (He.ga K "Looker") dx (flLooker v0 v1 v2 v3)) ∧ D.nx σ (upd H2 a (.ins (He.ga K "Looker") dx (flLooker v0 y v2 v3)))
def xfLooker_names (K : PySem.W.Frag) (ta : TE) : TE := fun σ H Q => ta σ H fun x H1 => ∃ a dx v0 v1 v2 v3, x = .ref a ∧ H1 a = some (.ins (He.ga K "Looker") dx (flLooker v0 v1 v2 v3)) ∧ Q v2 H1
theorem pe_xfLooker_names {X : Cx} {e : Expr} {ta : TE} {pos : Pos} (F : Fcts X.K) (he : PE X e ta) (hb : attributeBase e "names" X.env (eval e X.env) = eval e X.env) : PE X (.Attribute e "names" pos) (xfLooker_names X.K ta) := by
  refine ⟨fun pins s σ H Q I h => ?_⟩
  refine attr_of hb (thn (he.run pins s σ H _ I h) fun u s1 ⟨x, H1, I1, rx, a, dx, v0, v1, v2, v3, ex, ea, q⟩ => ?_)
  subst ex
  obtain rfl : u = Value.ref a := rx
  exact getattr_ok I1 ea F.clLooker F.naLooker_names lkLooker_names fun u2 s2 I2 ru => ⟨_, H1, I2, ru, q⟩
def xsLooker_names (K : PySem.W.Frag) (ta tv : TE) : TS := fun D σ H => tv σ H fun y H1 => ta σ H1 fun x H2 => ∃ a dx v0 v1 v2 v3, x = .ref a ∧ H2 a = some (.ins (He.ga K "Looker") dx (flLooker v0 v1 v2 v3)) ∧ D.nx σ (upd H2 a (.ins (He.ga K "Looker") dx (flLooker v0 v1 y v3)))
def xfLooker_seen (K : PySem.W.Frag) (ta : TE) : TE := fun σ H Q => ta σ H fun x H1 => ∃ a dx v0 v1 v2 v3, x = .ref a ∧ H1 a = some (.ins (He.ga K "Looker") dx (flLooker v0 v1 v2 v3)) ∧ Q v3 H1
theorem pe_xfLooker_seen {X : Cx} {e : Expr} {ta : TE} {pos : Pos} (F : Fcts X.K) (he : PE X e ta) (hb : attributeBase e "seen" X.env (eval e X.env) = eval e X.env) : PE X (.Attribute e "seen" pos) (xfLooker_seen X.K ta) := by
  refine ⟨fun pins s σ H Q I h => ?_⟩
  refine attr_of hb (thn (he.run pins s σ H _ I h) fun u s1 ⟨x, H1, I1, rx, a, dx, v0, v1, v2, v3, ex, ea, q⟩ => ?_)
  subst ex
  obtain rfl : u = Value.ref a := rx
  exact getattr_ok I1 ea F.clLooker F.naLooker_seen lkLooker_seen fun u2 s2 I2 ru => ⟨_, H1, I2, ru, q⟩
def xsLooker_seen (K : PySem.W.Frag) (ta tv : TE) : TS := fun D σ H => tv σ H fun y H1 => ta σ H1 fun x H2 => ∃ a dx v0 v1 v2 v3, x = .ref a ∧ H2 a = some (.ins (He.ga K "Looker") dx (flLooker v0 v1 v2 v3)) ∧ D.nx σ (upd H2 a (.ins (He.ga K "Looker") dx (flLooker v0 v1 v2 y)))
def xfReader_words (K : PySem.W.Frag) (ta : TE) : TE := fun σ H Q => ta σ H fun x H1 => ∃ a dx v0 v1, x = .ref a ∧ H1 a = some (.ins (He.ga K "Reader") dx (flReader v0 v1)) ∧ Q v0 H1
theorem pe_xfReader_words {X : Cx} {e : Expr} {ta : TE} {pos : Pos} (F : Fcts X.K) (he : PE X e ta) (hb : attributeBase e "words" X.env (eval e X.env) = eval e X.env) : PE X (.Attribute e "words" pos) (xfReader_words X.K ta) := by
  refine ⟨fun pins s σ H Q I h => ?_⟩
  refine attr_of hb (thn (he.run pins s σ H _ I h) fun u s1 ⟨x, H1, I1, rx, a, dx, v0, v1, ex, ea, q⟩ => ?_)
  subst ex
  obtain rfl : u = Value.ref a := rx
  exact getattr_ok I1 ea F.clReader F.naReader_words lkReader_words fun u2 s2 I2 ru => ⟨_, H1, I2, ru, q⟩
def xsReader_words (K : PySem.W.Frag) (ta tv : TE) : TS := fun D σ H => tv σ H fun y H1 => ta σ H1 fun x H2 => ∃ a dx v0 v1, x = .ref a ∧ H2 a = some (.ins (He.ga K "Reader") dx (flReader v0 v1)) ∧ D.nx σ (upd H2 a (.ins (He.ga K "Reader") dx (flReader y v1)))
def xfReader_at (K : PySem.W.Frag) (ta : TE) : TE := fun σ H Q => ta σ H fun x H1 => ∃ a dx v0 v1, x = .ref a ∧ H1 a = some (.ins (He.ga K "Reader") dx (flReader v0 v1)) ∧ Q v1 H1
theorem pe_xfReader_at {X : Cx} {e : Expr} {ta : TE} {pos : Pos} (F : Fcts X.K) (he : PE X e ta) (hb : attributeBase e "at" X.env (eval e X.env) = eval e X.env) : PE X (.Attribute e "at" pos) (xfReader_at X.K ta) := by
  refine ⟨fun pins s σ H Q I h => ?_⟩
  refine attr_of hb (thn (he.run pins s σ H _ I h) fun u s1 ⟨x, H1, I1, rx, a, dx, v0, v1, ex, ea, q⟩ => ?_)
  subst ex
  obtain rfl : u = Value.ref a := rx
  exact getattr_ok I1 ea F.clReader F.naReader_at lkReader_at fun u2 s2 I2 ru => ⟨_, H1, I2, ru, q⟩
def xsReader_at (K : PySem.W.Frag) (ta tv : TE) : TS := fun D σ H => tv σ H fun y H1 => ta σ H1 fun x H2 => ∃ a dx v0 v1, x = .ref a ∧ H2 a = some (.ins (He.ga K "Reader") dx (flReader v0 v1)) ∧ D.nx σ (upd H2 a (.ins (He.ga K "Reader") dx (flReader v0 y)))
theorem ps_xsLooker_many {X : Cx} {e value : Expr} {ta tv : TE} {pos pos2 : Pos} (F : Fcts X.K) (ha : PE X e ta) (hv : PE X value tv) (hs : swapsWith value (some (.Attribute e "many" pos2)) pos.line X.env = pure false) : PS X (.Assign [.Attribute e "many" pos2] value pos) (xsLooker_many X.K ta tv) := by
  refine ⟨fun pins s σ H D I h => ?_⟩
  refine plainObj_wpAny_Assign_Attribute (thn (hv.run pins s σ H _ I h) fun u s1 ⟨y, H1, I1, ry, q⟩ => thn (ha.run pins s1 σ H1 _ I1 q) fun ov s2 ⟨x, H2, I2, rx, a, dx, v0, v1, v2, v3, ex, ea, q2⟩ => ?_) hs
  subst ex
  obtain rfl : ov = Value.ref a := rx
  refine setattr_ok I2 ea F.clLooker F.naLooker_many lenLooker ry fun s3 I3 => ⟨σ, _, I3, ?_⟩
  rw [ptLooker_many]
  exact q2
theorem ps_xsLooker_params {X : Cx} {e value : Expr} {ta tv : TE} {pos pos2 : Pos} (F : Fcts X.K) (ha : PE X e ta) (hv : PE X value tv) (hs : swapsWith value (some (.Attribute e "params" pos2)) pos.line X.env = pure false) : PS X (.Assign [.Attribute e "params" pos2] value pos) (xsLooker_params X.K ta tv) := by
  refine ⟨fun pins s σ H D I h => ?_⟩
  refine plainObj_wpAny_Assign_Attribute (thn (hv.run pins s σ H _ I h) fun u s1 ⟨y, H1, I1, ry, q⟩ => thn (ha.run pins s1 σ H1 _ I1 q) fun ov s2 ⟨x, H2, I2, rx, a, dx, v0, v1, v2, v3, ex, ea, q2⟩ => ?_) hs
  subst ex
  obtain rfl : ov = Value.ref a := rx
  refine setattr_ok I2 ea F.clLooker F.naLooker_params lenLooker ry fun s3 I3 => ⟨σ, _, I3, ?_⟩
  rw [ptLooker_params]
  exact q2
theorem ps_xsLooker_names {X : Cx} {e value : Expr} {ta tv : TE} {pos pos2 : Pos} (F : Fcts X.K) (ha : PE X e ta) (hv : PE X value tv) (hs : swapsWith value (some (.Attribute e "names" pos2)) pos.line X.env = pure false) : PS X (.Assign [.Attribute e "names" pos2] value pos) (xsLooker_names X.K ta tv) := by
  refine ⟨fun pins s σ H D I h => ?_⟩
  refine plainObj_wpAny_Assign_Attribute (thn (hv.run pins s σ H _ I h) fun u s1 ⟨y, H1, I1, ry, q⟩ => thn (ha.run pins s1 σ H1 _ I1 q) fun ov s2 ⟨x, H2, I2, rx, a, dx, v0, v1, v2, v3, ex, ea, q2⟩ => ?_) hs
  subst ex
  obtain rfl : ov = Value.ref a := rx
  refine setattr_ok I2 ea F.clLooker F.naLooker_names lenLooker ry fun s3 I3 => ⟨σ, _, I3, ?_⟩
  rw [ptLooker_names]
  exact q2
theorem ps_xsLooker_seen {X : Cx} {e value : Expr} {ta tv : TE} {pos pos2 : Pos} (F : Fcts X.K) (ha : PE X e ta) (hv : PE X value tv) (hs : swapsWith value (some (.Attribute e "seen" pos2)) pos.line X.env = pure false) : PS X (.Assign [.Attribute e "seen" pos2] value pos) (xsLooker_seen X.K ta tv) := by
  refine ⟨fun pins s σ H D I h => ?_⟩
  refine plainObj_wpAny_Assign_Attribute (thn (hv.run pins s σ H _ I h) fun u s1 ⟨y, H1, I1, ry, q⟩ => thn (ha.run pins s1 σ H1 _ I1 q) fun ov s2 ⟨x, H2, I2, rx, a, dx, v0, v1, v2, v3, ex, ea, q2⟩ => ?_) hs
  subst ex
  obtain rfl : ov = Value.ref a := rx
  refine setattr_ok I2 ea F.clLooker F.naLooker_seen lenLooker ry fun s3 I3 => ⟨σ, _, I3, ?_⟩
  rw [ptLooker_seen]
  exact q2
theorem ps_xsReader_words {X : Cx} {e value : Expr} {ta tv : TE} {pos pos2 : Pos} (F : Fcts X.K) (ha : PE X e ta) (hv : PE X value tv) (hs : swapsWith value (some (.Attribute e "words" pos2)) pos.line X.env = pure false) : PS X (.Assign [.Attribute e "words" pos2] value pos) (xsReader_words X.K ta tv) := by
  refine ⟨fun pins s σ H D I h => ?_⟩
  refine plainObj_wpAny_Assign_Attribute (thn (hv.run pins s σ H _ I h) fun u s1 ⟨y, H1, I1, ry, q⟩ => thn (ha.run pins s1 σ H1 _ I1 q) fun ov s2 ⟨x, H2, I2, rx, a, dx, v0, v1, ex, ea, q2⟩ => ?_) hs
  subst ex
  obtain rfl : ov = Value.ref a := rx
  refine setattr_ok I2 ea F.clReader F.naReader_words lenReader ry fun s3 I3 => ⟨σ, _, I3, ?_⟩
  rw [ptReader_words]
  exact q2
theorem ps_xsReader_at {X : Cx} {e value : Expr} {ta tv : TE} {pos pos2 : Pos} (F : Fcts X.K) (ha : PE X e ta) (hv : PE X value tv) (hs : swapsWith value (some (.Attribute e "at" pos2)) pos.line X.env = pure false) : PS X (.Assign [.Attribute e "at" pos2] value pos) (xsReader_at X.K ta tv) := by
  refine ⟨fun pins s σ H D I h => ?_⟩
  refine plainObj_wpAny_Assign_Attribute (thn (hv.run pins s σ H _ I h) fun u s1 ⟨y, H1, I1, ry, q⟩ => thn (ha.run pins s1 σ H1 _ I1 q) fun ov s2 ⟨x, H2, I2, rx, a, dx, v0, v1, ex, ea, q2⟩ => ?_) hs
  subst ex
  obtain rfl : ov = Value.ref a := rx
  refine setattr_ok I2 ea F.clReader F.naReader_at lenReader ry fun s3 I3 => ⟨σ, _, I3, ?_⟩
  rw [ptReader_at]
  exact q2
end SD
set_option Elab.async false
set_option linter.all false
set_option maxRecDepth 100000
set_option maxHeartbeats 4000000
namespace SD
open PySem PySem.Spec PyProof.Rows L2
local macro_rules | `(tactic| walk_at "mem") => `(tactic| first | exact List.Mem.head _ | (apply List.Mem.tail; walk_at "mem"))
/-! ### kinds of values -/
theorem isi_int (K : PySem.W.Frag) (H : Hp) (i : Int) : IsiOf K H (.int i) "int" true := ⟨_, .base (.int i), kit_ty (by decide +kernel)⟩
theorem isi_intB (K : PySem.W.Frag) (H : Hp) (i : Int) : IsiOf K H (.int i) "bool" false := ⟨_, .base (.int i), kit_ty (by decide +kernel)⟩
theorem isi_intT (K : PySem.W.Frag) (H : Hp) (i : Int) : IsiOf K H (.int i) "tuple" false := ⟨_, .base (.int i), kit_ty (by decide +kernel)⟩
theorem isi_strS (K : PySem.W.Frag) (H : Hp) (i : Str) : IsiOf K H (.str i) "str" true := ⟨_, .base (.str i), kit_ty (by decide +kernel)⟩
theorem tyT {K : PySem.W.Frag} {H : Hp} {a : Addr} {xs : List V} (h : SqT K H a xs) : TyX K H (.ref a) (.type "tuple") := by
  rcases h with (h | ⟨o, h⟩) | ⟨o, its, n, l, c, _⟩
  · exact .base (.tup h)
  · exact .fTuple h
  · exact .kTuple l c
theorem isi_tup {K : PySem.W.Frag} {H : Hp} {a : Addr} {xs : List V} (h : SqT K H a xs) : IsiOf K H (.ref a) "tuple" true := ⟨_, tyT h, kit_ty (by decide +kernel)⟩
theorem isi_tupI {K : PySem.W.Frag} {H : Hp} {a : Addr} {xs : List V} (h : SqT K H a xs) : IsiOf K H (.ref a) "int" false := ⟨_, tyT h, kit_ty (by decide +kernel)⟩
/-! ### is_number: of an int -/
def sp_is_number (K : PySem.W.Frag) (w : World) : Sp := fun vs H Q _ => ∃ i : Int, vs = [.int i] ∧ Q (.bl true) H
abbrev n_f_is_number : List Str := ["thing"]
def t_f_is_number (K : PySem.W.Frag) (w : World)  : TS :=
 (tRet (tAndV (tCB (rIsi' K) (tCons (tVar 0) (tCons (tC (.ty "int")) tNil))) (tNotV (tCB (rIsi' K) (tCons (tVar 0) (tCons (tC (.ty "bool")) tNil))))))
theorem pu_f_is_number {K : PySem.W.Frag} {w : World} (vs : List V) (H : Hp) (Q : VK) (E : XK) (h : sp_is_number K w vs H Q E) : t_f_is_number K w { nx := fun _ H' => Q .non H', rt := Q } (start n_f_is_number vs) H := by
  obtain ⟨i, rfl, q⟩ := h
  exact ⟨_, rfl, _, _, _, rfl, isi_int K H i, _, rfl, iteT ⟨_, rfl, _, _, _, rfl, isi_intB K H i, _, rfl, q⟩⟩
/-! ### reckoned -/
abbrev Sm (i : Int) : Prop := 0 ≤ i ∧ i < REST
def sp_reckoned (K : PySem.W.Frag) (w : World) : Sp := fun vs H Q _ => ∃ (o : Op2) (i j : Int), vs = [.str o.str, .int i, .int j] ∧ Sm i ∧ Sm j ∧ ∀ H', Same H H' → Q (.int (o.ev i j)) H'
abbrev n_f_reckoned : List Str := ["word", "one", "other"]
def t_f_reckoned (K : PySem.W.Frag) (w : World)  : TS :=
 (tSeq (tIfS (tTest (tOp (rIn K false) (tVar 0) (tTup (tCons (tC (.str "less")) (tCons (tC (.str "same")) tNil))))) (tRet (tIf (tTest (tOp rEq (tVar 0) (tC (.str "less")))) (tCB rInt1 (tCons (tOp (rI0 fun i j => .bl (decide (i < j))) (tVar 1) (tVar 2)) tNil)) (tCB rInt1 (tCons (tOp rEq (tVar 1) (tVar 2)) tNil)))) tNext)
 (tRet (tOp (rI (fun _ j => 0 < j) fun i j => .int (i % j)) (tDGet (tDisp [((tC (.str "add")), (tOp (rI0 fun i j => .int (i + j)) (tVar 1) (tVar 2))), ((tC (.str "take")), (tOp (rI0 fun i j => .int (i - j)) (tVar 1) (tVar 2))), ((tC (.str "times")), (tOp (rI CMul fun i j => .int (i * j)) (tVar 1) (tVar 2)))]) (tVar 0)) (tC (.int 10007)))))
theorem same_new {H : Hp} {p : Addr} (h : H p = none) (o : HO) : Same H (upd H p o) := fun b u q => by rw [upd_ne (ne_of_none q h)]; exact q
theorem pu_f_reckoned {K : PySem.W.Frag} {w : World} (vs : List V) (H : Hp) (Q : VK) (E : XK) (h : sp_reckoned K w vs H Q E) : t_f_reckoned K w { nx := fun _ H' => Q .non H', rt := Q } (start n_f_reckoned vs) H := by
  obtain ⟨o, i, j, rfl, hi, hj, q⟩ := h
  refine ⟨_, rfl, (by show 2 ≤ sizeLine; decide), fun p hp => ?_⟩
  have s1 : Same H (upd H p (.tup [.str "less", .str "same"])) := same_new hp _
  refine ⟨p, _, rfl, .inr (.inl (.inl upd_same)), rfl, rfl, _, rfl, ?_⟩
  have big : (∀ H', Same H H' → Q (.int (((if o.str = "add" then i + j else if o.str = "take" then i - j else i * j)) % 10007)) H') → o = .add ∨ o = .take ∨ o = .times →
     tRet (tOp (rI (fun _ j => 0 < j) fun i j => .int (i % j)) (tDGet (tDisp [((tC (.str "add")), (tOp (rI0 fun i j => .int (i + j)) (tVar 1) (tVar 2))), ((tC (.str "take")), (tOp (rI0 fun i j => .int (i - j)) (tVar 1) (tVar 2))), ((tC (.str "times")), (tOp (rI CMul fun i j => .int (i * j)) (tVar 1) (tVar 2)))]) (tVar 0)) (tC (.int 10007)))
      { nx := fun _ H' => Q .non H', rt := Q } [some (.str o.str), some (.int i), some (.int j)] (upd H p (.tup [.str "less", .str "same"])) := by
    intro q2 ho
    intro d hd
    refine ⟨_, rfl, _, rfl, _, _, rfl, rfl, _, rfl, _, rfl, _, _, rfl, rfl, _, rfl, _, rfl, _, _, rfl, rfl, .inl ⟨by have := hi.1; omega, by have := hi.2; unfold REST at this; omega⟩, ?_⟩
    refine ⟨upd_same, [(.inr "add", .int (i + j)), (.inr "take", .int (i - j)), (.inr "times", .int (i * j))], rfl, (by show 3 ≤ 15; decide), ?_⟩
    have s2 : Same (upd H p (.tup [.str "less", .str "same"])) (upd (upd (upd H p (.tup [.str "less", .str "same"])) d (.dK [])) d (.dK (mergeK [] [(.inr "add", .int (i + j)), (.inr "take", .int (i - j)), (.inr "times", .int (i * j))]))) := by
      rw [upd_upd]; exact same_new hd _
    have em : mergeK [] [((.inr "add" : Key), V.int (i + j)), (.inr "take", .int (i - j)), (.inr "times", .int (i * j))] = [((.inr "add" : Key), V.int (i + j)), (.inr "take", .int (i - j)), (.inr "times", .int (i * j))] := by kernel_rfl
    have s3 := s1.trans s2
    rw [em] at s3 ⊢
    rcases ho with rfl | rfl | rfl
    · refine ⟨_, rfl, d, .int (i + j), rfl, .inl ⟨_, .inr "add", .inl upd_same, rfl, (by kernel_rfl)⟩, _, _, rfl, rfl, (by show (0 : Int) < 10007; decide), ?_⟩
      exact q2 _ s3
    · refine ⟨_, rfl, d, .int (i - j), rfl, .inl ⟨_, .inr "take", .inl upd_same, rfl, (by kernel_rfl)⟩, _, _, rfl, rfl, (by show (0 : Int) < 10007; decide), ?_⟩
      exact q2 _ s3
    · refine ⟨_, rfl, d, .int (i * j), rfl, .inl ⟨_, .inr "times", .inl upd_same, rfl, (by kernel_rfl)⟩, _, _, rfl, rfl, (by show (0 : Int) < 10007; decide), ?_⟩
      exact q2 _ s3
  cases o with
  | add => exact iteF (big (fun H' s => q H' s) (.inl rfl))
  | take => exact iteF (big (fun H' s => q H' s) (.inr (.inl rfl)))
  | times => exact iteF (big (fun H' s => q H' s) (.inr (.inr rfl)))
  | less =>
    refine iteT ⟨_, rfl, rfl, _, rfl, ?_⟩
    refine iteT ⟨_, rfl, _, rfl, _, _, rfl, rfl, .inr ⟨_, rfl, ?_⟩⟩
    have := q _ s1
    show Q (.int (if decide (i < j) = true then 1 else 0)) _
    simp only [decide_eq_true_eq]
    exact this
  | same =>
    refine iteT ⟨_, rfl, rfl, _, rfl, ?_⟩
    refine iteF ⟨_, rfl, _, rfl, rfl, .inr ⟨_, rfl, ?_⟩⟩
    have := q _ s1
    have e : (V.int i = V.int j) = (i = j) := propext ⟨fun h => by cases h; rfl, fun h => by rw [h]⟩
    show Q (.int (if decide (V.int i = V.int j) = true then 1 else 0)) _
    simp only [decide_eq_true_eq, e]
    exact this
/-! ### worth -/
theorem str_ne1 (o : Op2) : o.str ≠ "num" ∧ o.str ≠ "name" ∧ o.str ≠ "cell" := by cases o <;> exact ⟨by decide +kernel, by decide +kernel, by decide +kernel⟩
def Rng (xs : List Int) : Prop := ∀ x ∈ xs, Sm x
theorem Op2.ev_sm (o : Op2) (i j : Int) : Sm (o.ev i j) := by
  cases o <;> simp only [Op2.ev, Sm, REST]
  · omega
  · omega
  · have := Int.emod_nonneg (i * j) (b := 10007) (by omega); have := Int.emod_lt_of_pos (i * j) (b := 10007) (by omega); omega
  · split <;> omega
  · split <;> omega
theorem getD_sm {xs : List Int} (h : Rng xs) {k : Nat} : Sm (xs.getD k 0) := by
  rw [List.getD_eq_getElem?_getD]
  cases e : xs[k]? with
  | none => exact ⟨by decide, by decide⟩
  | some v => exact h v (List.mem_of_getElem? e)
theorem Pt.ev_sm {ns cs : List Int} (hn : Rng ns) (hc : Rng cs) {a b : Nat} : ∀ p : Pt, p.wf a b = true → Sm (p.ev ns cs)
  | .num n, h => by simp only [Pt.wf, Bool.and_eq_true, decide_eq_true_eq] at h; exact h
  | .name k, _ => getD_sm hn
  | .cell k, _ => getD_sm hc
  | .two o x y, _ => Op2.ev_sm o _ _
def sp_worth (n : Nat) (K : PySem.W.Frag) (w : World) : Sp := fun vs H Q _ => ∃ (p : Pt) (vp : V) (na ca : Addr) (ns cs : List Int), vs = [vp, .ref na, .ref ca] ∧ p.dp ≤ n ∧ PtAt K H p vp ∧ p.wf ns.length cs.length = true ∧
  SqL K H na (ns.map V.int) ∧ SqL K H ca (cs.map V.int) ∧ Rng ns ∧ Rng cs ∧ ∀ H', Same H H' → Q (.int (p.ev ns cs)) H'
theorem Same.sq {K : PySem.W.Frag} {H H' : Hp} (e : Same H H') {a : Addr} {xs : List V} (h : SqL K H a xs) : SqL K H' a xs := L2.Same.seq e h
abbrev n_f_worth : List Str := ["part", "names", "cells"]
def t_f_worth (K : PySem.W.Frag) (w : World) (n : Nat) : TS :=
 (tSeq (tIfS (tTest (tOp rEq (tOp (rIxT K) (tVar 0) (tC (.int 0))) (tC (.str "num")))) (tRet (tOp (rIxT K) (tVar 0) (tC (.int 1)))) tNext)
 (tSeq (tIfS (tTest (tOp (rIn K false) (tOp (rIxT K) (tVar 0) (tC (.int 0))) (tTup (tCons (tC (.str "name")) (tCons (tC (.str "cell")) tNil))))) (tRet (tIf (tTest (tOp rEq (tOp (rIxT K) (tVar 0) (tC (.int 0))) (tC (.str "name")))) (tOp (rIxL K) (tVar 1) (tOp (rIxT K) (tVar 0) (tC (.int 1)))) (tOp (rIxL K) (tVar 2) (tOp (rIxT K) (tVar 0) (tC (.int 1)))))) tNext)
 (tRet (tCall (sp_reckoned K w) [] E0 (tCons (tOp (rIxT K) (tVar 0) (tC (.int 0))) (tCons (tCall (sp_worth n K w) [] E0 (tCons (tOp (rIxT K) (tVar 0) (tC (.int 1))) (tCons (tVar 1) (tCons (tVar 2) tNil)))) (tCons (tCall (sp_worth n K w) [] E0 (tCons (tOp (rIxT K) (tVar 0) (tC (.int 2))) (tCons (tVar 1) (tCons (tVar 2) tNil)))) tNil)))))))
theorem atI_map {ns : List Int} {k : Nat} (h : k < ns.length) : atI (ns.map V.int) (k : Int) = some (.int (ns.getD k 0)) := by
  refine atI_nat (j := k) ?_
  rw [List.getElem?_map, List.getElem?_eq_getElem h, List.getD_eq_getElem?_getD, List.getElem?_eq_getElem h]
  rfl
theorem pu_f_worth {K : PySem.W.Frag} {w : World} (n : Nat) (vs : List V) (H : Hp) (Q : VK) (E : XK) (h : sp_worth (n + 1) K w vs H Q E) : t_f_worth K w n { nx := fun _ H' => Q .non H', rt := Q } (start n_f_worth vs) H := by
  obtain ⟨p, vp, na, ca, ns, cs, rfl, hd, hp, hw, hn, hc, rn, rc, q⟩ := h
  cases p with
  | num i =>
    obtain ⟨a, rfl, ht⟩ := hp
    refine ⟨_, rfl, a, _, 0, _, rfl, rfl, ht, rfl, rfl, _, rfl, iteT ⟨_, rfl, a, _, 1, _, rfl, rfl, ht, rfl, ?_⟩⟩
    exact q H (Same.refl H)
  | name k =>
    obtain ⟨a, rfl, ht⟩ := hp
    have hk : k < ns.length := by simpa [Pt.wf] using hw
    refine ⟨_, rfl, a, _, 0, _, rfl, rfl, ht, rfl, rfl, _, rfl, iteF ⟨_, rfl, a, _, 0, _, rfl, rfl, ht, rfl, (by show 2 ≤ sizeLine; decide), fun t ht2 => ?_⟩⟩
    have i1 := Imm.new (o := .tup [.str "name", .str "cell"]) ht2
    have s1 := same_new ht2 (.tup [.str "name", .str "cell"])
    refine ⟨t, _, rfl, .inr (.inl (.inl upd_same)), rfl, rfl, _, rfl, iteT ⟨_, rfl, a, _, 0, _, rfl, rfl, i1.t ht, rfl, rfl, _, rfl, iteT ⟨_, rfl, _, rfl, a, _, 1, _, rfl, rfl, i1.t ht, rfl, na, _, _, _, rfl, rfl, Same.sq s1 hn, atI_map hk, ?_⟩⟩⟩
    exact q _ s1
  | cell k =>
    obtain ⟨a, rfl, ht⟩ := hp
    have hk : k < cs.length := by simpa [Pt.wf] using hw
    refine ⟨_, rfl, a, _, 0, _, rfl, rfl, ht, rfl, rfl, _, rfl, iteF ⟨_, rfl, a, _, 0, _, rfl, rfl, ht, rfl, (by show 2 ≤ sizeLine; decide), fun t ht2 => ?_⟩⟩
    have i1 := Imm.new (o := .tup [.str "name", .str "cell"]) ht2
    have s1 := same_new ht2 (.tup [.str "name", .str "cell"])
    refine ⟨t, _, rfl, .inr (.inl (.inl upd_same)), rfl, rfl, _, rfl, iteT ⟨_, rfl, a, _, 0, _, rfl, rfl, i1.t ht, rfl, rfl, _, rfl, iteF ⟨_, rfl, _, rfl, a, _, 1, _, rfl, rfl, i1.t ht, rfl, ca, _, _, _, rfl, rfl, Same.sq s1 hc, atI_map hk, ?_⟩⟩⟩
    exact q _ s1
  | two o x y =>
    obtain ⟨a, vx, vy, rfl, ht, hx, hy⟩ := hp
    have hwx : x.wf ns.length cs.length = true ∧ y.wf ns.length cs.length = true := by simpa [Pt.wf] using hw
    have hdx : x.dp ≤ n ∧ y.dp ≤ n := by simp only [Pt.dp] at hd; omega
    obtain ⟨e1, e2, e3⟩ := str_ne1 o
    refine ⟨_, rfl, a, _, 0, _, rfl, rfl, ht, rfl, rfl, _, rfl, ?_⟩
    refine ite2 (fun c => absurd (V.str.inj (of_decide_eq_true c)) e1) fun _ => ?_
    refine ⟨_, rfl, a, _, 0, _, rfl, rfl, ht, rfl, (by show 2 ≤ sizeLine; decide), fun t ht2 => ?_⟩
    have i1 := Imm.new (o := .tup [.str "name", .str "cell"]) ht2
    have s1 := same_new ht2 (.tup [.str "name", .str "cell"])
    refine ⟨t, _, rfl, .inr (.inl (.inl upd_same)), rfl, rfl, _, rfl, ?_⟩
    have hin : inV (.str o.str) [.str "name", .str "cell"] = false := by cases o <;> decide +kernel
    refine ite2 (fun c => ?_) fun _ => ?_
    · have c2 : inV (.str o.str) [.str "name", .str "cell"] = true := c
      rw [hin] at c2; cases c2
    refine ⟨_, rfl, a, _, 0, _, rfl, rfl, i1.t ht, rfl, ?_⟩
    refine ⟨_, rfl, a, _, 1, _, rfl, rfl, i1.t ht, rfl, _, rfl, _, rfl, ?_⟩
    refine ⟨x, vx, na, ca, ns, cs, rfl, hdx.1, hx.mono i1, hwx.1, Same.sq s1 hn, Same.sq s1 hc, rn, rc, fun H1 s2 => ?_⟩
    have i2 := i1.trans (Imm.same s2)
    have s3 := s1.trans s2
    refine ⟨_, rfl, a, _, 2, _, rfl, rfl, i2.t ht, rfl, _, rfl, _, rfl, ?_⟩
    refine ⟨y, vy, na, ca, ns, cs, rfl, hdx.2, hy.mono i2, hwx.2, Same.sq s3 hn, Same.sq s3 hc, rn, rc, fun H2 s4 => ?_⟩
    refine ⟨o, _, _, rfl, Pt.ev_sm rn rc x hwx.1, Pt.ev_sm rn rc y hwx.2, fun H3 s5 => ?_⟩
    exact q H3 (s3.trans (s4.trans s5))
end SD
set_option Elab.async false
set_option linter.all false
set_option maxRecDepth 100000
set_option maxHeartbeats 4000000
namespace SD
open PySem PySem.Spec PyProof.Rows L2
/-! ### small words -/
theorem iteDT {p A B : Prop} [Decidable p] (h : p) (a : A) : if decide p = true then A else B := by rw [if_pos (decide_eq_true h)]; exact a
theorem iteDF {p A B : Prop} [Decidable p] (h : ¬ p) (b : B) : if decide p = true then A else B := by rw [if_neg (by simpa using h)]; exact b
theorem iteNT {p A B : Prop} [Decidable p] (h : ¬ p) (a : A) : if (!decide p) = true then A else B := by rw [if_pos (by simpa using h)]; exact a
theorem iteNF {p A B : Prop} [Decidable p] (h : p) (b : B) : if (!decide p) = true then A else B := by rw [if_neg (by simpa using h)]; exact b
theorem cut1 (xs : List V) : cutV xs (some 1) none = xs.drop 1 := by
  unfold cutV
  rw [show HT.sIx xs.length 0 (some 1) = min 1 xs.length from HT.sIx_nat xs.length 0 1, HT.sIx_none]
  cases xs with
  | nil => rfl
  | cons x r =>
    rw [show min 1 (x :: r).length = 1 by rw [List.length_cons]; omega]
    show (List.take ((x :: r).length - 1) r) = r
    rw [List.length_cons, Nat.add_sub_cancel]
    exact List.take_length
theorem notWhole1 (x : V) (r : List V) : ¬ (HT.sIx (x :: r).length 0 (some 1) = 0 ∧ HT.sIx (x :: r).length (x :: r).length none = (x :: r).length) := by
  rw [show HT.sIx (x :: r).length 0 (some 1) = min 1 (x :: r).length from HT.sIx_nat (x :: r).length 0 1]
  rw [List.length_cons]
  omega
/-- what one item may be, by its kind -/
def OkI (K : PySem.W.Frag) (H : Hp) (many names : Int) (ps : List Int) (its : List V) (c : Nat) (v : V) : Prop :=
  (c = 110 ∧ ∃ i : Int, v = .int i ∧ 0 ≤ i ∧ i < 10007) ∨ (c = 107 ∧ ∃ i : Int, v = .int i ∧ 0 ≤ i ∧ i < names) ∨ (c = 99 ∧ ∃ i : Int, v = .int i ∧ 0 ≤ i ∧ i < many) ∨
  (c = 102 ∧ ∃ i : Int, v = .int i ∧ 0 ≤ i ∧ i < (ps.length : Int)) ∨ (c = 112 ∧ ∃ a xs, v = .ref a ∧ SqT K H a xs ∧ ∃ f : Nat, its[0]? = some (.int (f : Nat)) ∧ ps[f]? = some (xs.length : Int)) ∨
  (c = 98 ∧ ∃ a xs, v = .ref a ∧ SqT K H a xs) ∨ c = 120
theorem OkI.mono {K : PySem.W.Frag} {H H' : Hp} {many names : Int} {ps : List Int} {its : List V} {c : Nat} {v : V} (i : Imm H H') : OkI K H many names ps its c v → OkI K H' many names ps its c v
  | .inl h => .inl h
  | .inr (.inl h) => .inr (.inl h)
  | .inr (.inr (.inl h)) => .inr (.inr (.inl h))
  | .inr (.inr (.inr (.inl h))) => .inr (.inr (.inr (.inl h)))
  | .inr (.inr (.inr (.inr (.inl ⟨e, a, xs, ev, h, r⟩)))) => .inr (.inr (.inr (.inr (.inl ⟨e, a, xs, ev, i.t h, r⟩))))
  | .inr (.inr (.inr (.inr (.inr (.inl ⟨e, a, xs, ev, h⟩))))) => .inr (.inr (.inr (.inr (.inr (.inl ⟨e, a, xs, ev, i.t h⟩)))))
  | .inr (.inr (.inr (.inr (.inr (.inr h))))) => .inr (.inr (.inr (.inr (.inr (.inr h)))))
abbrev lkO (K : PySem.W.Frag) (dx : Addr) (many : Int) (pl : Addr) (names seen : Int) : HO := .ins (He.ga K "Looker") dx (flLooker (.int many) (.ref pl) (.int names) (.int seen))
/-! ### Looker.__init__ -/
def sp_Looker_init (K : PySem.W.Frag) (w : World) : Sp := fun vs H Q _ => ∃ (x dx pl : Addr) (many : Int) (R : List (Addr × HO)), vs = [.ref x, .int many, .ref pl] ∧ Holds H ((x, .ins (He.ga K "Looker") dx []) :: R) ∧
  ∀ H', Imm H H' → Holds H' ((x, lkO K dx many pl 0 0) :: R) → Q .non H'
abbrev n_m_Looker_init : List Str := ["self", "many", "params"]
def t_m_Looker_init (K : PySem.W.Frag) (w : World)  : TS :=
 (tSeq (sFld K (tVar 0) (tVar 1) "many")
 (tSeq (sFld K (tVar 0) (tVar 2) "params")
 (tSeq (sFld K (tVar 0) (tC (.int 0)) "names")
 (sFld K (tVar 0) (tC (.int 0)) "seen"))))
theorem pu_m_Looker_init {K : PySem.W.Frag} {w : World} (F : Fcts K) (vs : List V) (H : Hp) (Q : VK) (E : XK) (h : sp_Looker_init K w vs H Q E) : t_m_Looker_init K w { nx := fun _ H' => Q .non H', rt := Q } (start n_m_Looker_init vs) H := by
  obtain ⟨x, dx, pl, many, R, rfl, hH, q⟩ := h
  refine ⟨_, rfl, _, rfl, x, _, dx, _, rfl, hH.head, F.clLooker, F.naLooker_many, (by show 0 < 1000; decide), ?_⟩
  have h1 := hH.upd (o' := .ins (He.ga K "Looker") dx (putF "many" (.int many) []))
  refine ⟨_, rfl, _, rfl, x, _, dx, _, rfl, h1.head, F.clLooker, F.naLooker_params, (by show 1 < 1000; decide), ?_⟩
  have h2 := h1.upd (o' := .ins (He.ga K "Looker") dx (putF "params" (.ref pl) (putF "many" (.int many) [])))
  refine ⟨_, rfl, x, _, dx, _, rfl, h2.head, F.clLooker, F.naLooker_names, (by show 2 < 1000; decide), ?_⟩
  have h3 := h2.upd (o' := .ins (He.ga K "Looker") dx (putF "names" (.int 0) (putF "params" (.ref pl) (putF "many" (.int many) []))))
  refine ⟨_, rfl, x, _, dx, _, rfl, h3.head, F.clLooker, F.naLooker_seen, (by show 3 < 1000; decide), ?_⟩
  refine q _ ((hH.imm rfl).trans ((h1.imm rfl).trans ((h2.imm rfl).trans (h3.imm rfl)))) ?_
  rw [inLooker]
  exact h3.upd
/-! ### Looker.bounds -/
def sp_Looker_bounds (K : PySem.W.Frag) (w : World) : Sp := fun vs H Q _ => ∃ (l dx pl ta : Addr) (many names seen at_ : Int) (ps : List Int) (c : Nat) (v : V) (wd : Str) (its : List V) (R : List (Addr × HO)), vs = [.ref l, .str ⟨#[c]⟩, v, .ref ta, .int at_] ∧
  Holds H ((l, lkO K dx many pl names seen) :: (pl, .lst (ps.map V.int)) :: R) ∧ SqT K H ta (.str wd :: its) ∧ OkI K H many names ps its c v ∧
  ∀ H', Imm H H' → Holds H' ((l, lkO K dx many pl names seen) :: (pl, .lst (ps.map V.int)) :: R) → Q .non H'
abbrev n_m_Looker_bounds : List Str := ["self", "kind", "part", "thing", "at", "most"]
def t_m_Looker_bounds (K : PySem.W.Frag) (w : World)  : TS :=
 (tSeq (tAsg (tDGet2 (tDisp [((tC (.str "n")), (tC (.int 10007))), ((tC (.str "k")), (xfLooker_names K (tVar 0))), ((tC (.str "c")), (xfLooker_many K (tVar 0))), ((tC (.str "f")), (tCB (rLenS' K) (tCons (xfLooker_params K (tVar 0)) tNil)))]) (tVar 1) (tC .non)) (gName 5))
 (tSeq (tIfS (tAnd (tTest (tOp rNotN (tVar 5) (tC .non))) (tNot (tTest (tChain (rI0 fun i j => .bl (decide (i ≤ j))) (rI0 fun i j => .bl (decide (i < j))) (tC (.int 0)) (tVar 2) (tVar 5))))) tNever tNext)
 (tIfS (tAnd (tTest (tOp rEq (tVar 1) (tC (.str "p")))) (tTest (tOp rNe (tCB (rLenS' K) (tCons (tVar 2) tNil)) (tOp (rIxL K) (xfLooker_params K (tVar 0)) (tOp (rIxT K) (tVar 3) (tC (.int 1))))))) tNever tNext)))
theorem pu_m_Looker_bounds {K : PySem.W.Frag} {w : World} (vs : List V) (H : Hp) (Q : VK) (E : XK) (h : sp_Looker_bounds K w vs H Q E) : t_m_Looker_bounds K w { nx := fun _ H' => Q .non H', rt := Q } (start n_m_Looker_bounds vs) H := by
  obtain ⟨l, dx, pl, ta, many, names, seen, at_, ps, c, v, wd, its, R, rfl, hH, ht, ok, q⟩ := h
  intro d hd
  have h1 := hH.skip (o := .dK []) hd
  have hl := h1.head
  have hp := h1.tail.head
  refine ⟨_, rfl, l, dx, _, _, _, _, rfl, hl, _, rfl, l, dx, _, _, _, _, rfl, hl, _, rfl, l, dx, _, _, _, _, rfl, hl, pl, _, rfl, .inl (SqL.of hp), ?_⟩
  refine ⟨upd_same, [((.inr "n" : Key), V.int 10007), (.inr "k", .int names), (.inr "c", .int many), (.inr "f", .int ((ps.map V.int).length : Nat))], rfl, (by show 4 ≤ 15; decide), ?_⟩
  have em : mergeK [] [((.inr "n" : Key), V.int 10007), (.inr "k", .int names), (.inr "c", .int many), (.inr "f", .int ((ps.map V.int).length : Nat))] = [((.inr "n" : Key), V.int 10007), (.inr "k", .int names), (.inr "c", .int many), (.inr "f", .int ((ps.map V.int).length : Nat))] := by kernel_rfl
  rw [em, upd_upd, List.length_map]
  generalize hkv : [((.inr "n" : Key), V.int 10007), (.inr "k", .int names), (.inr "c", .int many), (.inr "f", .int ((ps.length : Nat) : Int))] = kvs
  have h2 := hH.skip (o := .dK kvs) hd
  have i2 := Imm.new (o := .dK kvs) hd
  have hl2 := h2.head
  have hp2 := h2.tail.head
  have fin : ∀ σ, (fun (_ : L2.St) H' => Q V.non H') σ (upd H d (.dK kvs)) := fun _ => q _ i2 h2
  refine ⟨d, rfl, .inl ⟨_, .inl upd_same⟩, _, rfl, valV kvs (.inr ⟨#[c]⟩), .inl ⟨kvs, .inr ⟨#[c]⟩, .inl upd_same, rfl, rfl⟩, ?_⟩
  have num : ∀ (m i : Int), v = .int i → 0 ≤ i → i < m → (⟨#[c]⟩ : Str) ≠ "p" → valV kvs (.inr ⟨#[c]⟩) = some (.int m) →
      (gName 5 ((valV kvs (.inr ⟨#[c]⟩)).getD .non) [some (.ref l), some (.str ⟨#[c]⟩), some v, some (.ref ta), some (.int at_), none] (upd H d (.dK kvs)) fun σ2 H2 => tSeq (tIfS (tAnd (tTest (tOp rNotN (tVar 5) (tC .non))) (tNot (tTest (tChain (rI0 fun i j => .bl (decide (i ≤ j))) (rI0 fun i j => .bl (decide (i < j))) (tC (.int 0)) (tVar 2) (tVar 5))))) tNever tNext)
 (tIfS (tAnd (tTest (tOp rEq (tVar 1) (tC (.str "p")))) (tTest (tOp rNe (tCB (rLenS' K) (tCons (tVar 2) tNil)) (tOp (rIxL K) (xfLooker_params K (tVar 0)) (tOp (rIxT K) (tVar 3) (tC (.int 1))))))) tNever tNext) { nx := fun _ H' => Q .non H', rt := Q } σ2 H2) := by
    intro m i ev h0 hm hnp e
    subst ev
    rw [e]
    refine ⟨_, rfl, rfl, _, rfl, iteT ⟨_, rfl, _, _, rfl, rfl, _, rfl, iteDT h0 ⟨_, rfl, _, _, rfl, rfl, _, rfl, iteNF hm ?_⟩⟩⟩
    refine ⟨_, rfl, rfl, _, rfl, iteDF (fun z => hnp (V.str.inj z)) (iteF (fin []))⟩
  have oth : (⟨#[c]⟩ : Str) ≠ "p" → valV kvs (.inr ⟨#[c]⟩) = none →
      (gName 5 ((valV kvs (.inr ⟨#[c]⟩)).getD .non) [some (.ref l), some (.str ⟨#[c]⟩), some v, some (.ref ta), some (.int at_), none] (upd H d (.dK kvs)) fun σ2 H2 => tSeq (tIfS (tAnd (tTest (tOp rNotN (tVar 5) (tC .non))) (tNot (tTest (tChain (rI0 fun i j => .bl (decide (i ≤ j))) (rI0 fun i j => .bl (decide (i < j))) (tC (.int 0)) (tVar 2) (tVar 5))))) tNever tNext)
 (tIfS (tAnd (tTest (tOp rEq (tVar 1) (tC (.str "p")))) (tTest (tOp rNe (tCB (rLenS' K) (tCons (tVar 2) tNil)) (tOp (rIxL K) (xfLooker_params K (tVar 0)) (tOp (rIxT K) (tVar 3) (tC (.int 1))))))) tNever tNext) { nx := fun _ H' => Q .non H', rt := Q } σ2 H2) := by
    intro hnp e
    rw [e]
    refine ⟨_, rfl, rfl, _, rfl, iteF (iteF ?_)⟩
    refine ⟨_, rfl, rfl, _, rfl, iteDF (fun z => hnp (V.str.inj z)) (iteF (fin []))⟩
  rcases ok with ⟨rfl, i, rfl, a1, a2⟩ | ⟨rfl, i, rfl, a1, a2⟩ | ⟨rfl, i, rfl, a1, a2⟩ | ⟨rfl, i, rfl, a1, a2⟩ | ⟨rfl, a, xs, rfl, hx, f, e1, e2⟩ | ⟨rfl, _⟩ | rfl
  · exact num _ i rfl a1 a2 (by decide +kernel) (by rw [← hkv]; kernel_rfl)
  · exact num _ i rfl a1 a2 (by decide +kernel) (by rw [← hkv]; kernel_rfl)
  · exact num _ i rfl a1 a2 (by decide +kernel) (by rw [← hkv]; kernel_rfl)
  · exact num _ i rfl a1 a2 (by decide +kernel) (by rw [← hkv]; kernel_rfl)
  · have e : valV kvs (.inr (⟨#[112]⟩ : Str)) = none := by rw [← hkv]; kernel_rfl
    rw [e]
    refine ⟨_, rfl, rfl, _, rfl, iteF (iteF ?_)⟩
    refine ⟨_, rfl, rfl, _, rfl, iteDT (congrArg V.str (by decide +kernel)) ?_⟩
    have hat1 : atI (.str wd :: its) 1 = some (.int (f : Nat)) := by
      refine atI_nat (j := 1) ?_
      rw [List.getElem?_cons_succ]; exact e1
    have hat2 : atI (ps.map V.int) (f : Nat) = some (.int (xs.length : Int)) := atI_nat (by rw [List.getElem?_map, e2]; rfl)
    refine ⟨_, rfl, a, xs, rfl, .inr (i2.t hx), _, rfl, l, dx, _, _, _, _, rfl, hl2, _, rfl, ta, _, 1, _, rfl, rfl, i2.t ht, hat1, pl, _, _, _, rfl, rfl, SqL.of hp2, hat2, rfl, _, rfl, ?_⟩
    exact iteNF rfl (fin [])
  · exact oth (by decide +kernel) (by rw [← hkv]; kernel_rfl)
  · exact oth (by decide +kernel) (by rw [← hkv]; kernel_rfl)
end SD
set_option Elab.async false
set_option linter.all false
set_option maxRecDepth 100000
set_option maxHeartbeats 4000000
namespace SD
open PySem PySem.Spec PyProof.Rows L2
/-! ### the tables -/
def tabD (z : Str) : Option V := ([("set", .str "kx"), ("put", .str "cx"), ("say", .str "x"), ("if", .str "xbb"), ("again", .str "xb"), ("call", .str "fpk"), ("return", .str "x")] : List (Str × V)).lookup z
def tabP (z : Str) : Option V := ([("num", .str "n"), ("name", .str "k"), ("cell", .str "c")] : List (Str × V)).lookup z
def twoL : List V := [.str "add", .str "take", .str "times", .str "less", .str "same"]
def waysL : List V := [.str "in", .str "over", .str "out"]
structure Tb (K : PySem.W.Frag) (w : World) : Prop where
  deeds : KTab K w (He.ga K "DEEDS") tabD
  parts : KTab K w (He.ga K "PARTS") tabP
  two : ∀ H, SqT K H (He.ga K "TWO") twoL
/-! ### items of a thing -/
inductive Itm where
  | v (c : Nat) | x (p : Pt) | bd (l : List Dd) | ps (l : List Pt)
def Itm.code : Itm → Nat | .v c => c | .x _ => 120 | .bd _ => 98 | .ps _ => 112
def Itm.sz : Itm → Nat | .v _ => 0 | .x p => p.sz | .bd b => szDs b | .ps l => szPs l
def Itm.dp : Itm → Nat | .v _ => 0 | .x p => p.dp | .bd b => dpDs b | .ps l => dpPs l
def Itm.wf (names cells : Nat) (params : List Nat) : Itm → Bool | .v _ => true | .x p => p.wf names cells | .bd b => wfDs names cells params b | .ps l => wfPs names cells l
def szIs : List Itm → Nat | [] => 0 | i :: r => i.sz + szIs r
def ItmAt (K : PySem.W.Frag) (H : Hp) (many names : Int) (ps : List Int) (its : List V) (it : Itm) (u : V) : Prop :=
  OkI K H many names ps its it.code u ∧ match it with
  | .v c => c ≠ 120 ∧ c ≠ 98 ∧ c ≠ 112
  | .x p => PtAt K H p u
  | .bd b => ∃ a vs, u = .ref a ∧ SqT K H a vs ∧ DdsAt K H b vs
  | .ps l => ∃ a vs, u = .ref a ∧ SqT K H a vs ∧ PtsAt K H l vs
theorem ItmAt.mono {K : PySem.W.Frag} {H H' : Hp} {many names : Int} {ps : List Int} {its : List V} {it : Itm} {u : V} (i : Imm H H') (h : ItmAt K H many names ps its it u) : ItmAt K H' many names ps its it u := by
  refine ⟨h.1.mono i, ?_⟩
  cases it with
  | v c => exact h.2
  | x p => exact PtAt.mono i h.2
  | bd b => obtain ⟨a, vs, e, h1, h2⟩ := h.2; exact ⟨a, vs, e, i.t h1, h2.mono i⟩
  | ps l => obtain ⟨a, vs, e, h1, h2⟩ := h.2; exact ⟨a, vs, e, i.t h1, h2.mono i⟩
structure ThAt (K : PySem.W.Frag) (H : Hp) (many names : Int) (ps : List Int) (isd : Bool) (a : Addr) (wd : Str) (its : List V) (sh : Str) (items : List Itm) : Prop where
  tup : SqT K H a (.str wd :: its)
  shp : (isd = true ∧ tabD wd = some (.str sh)) ∨ (isd = false ∧ inV (.str wd) twoL = true ∧ sh = "xx") ∨ (isd = false ∧ inV (.str wd) twoL = false ∧ tabP wd = some (.str sh))
  len : items.length = its.length
  few : items.length ≤ 4
  codes : sh.cps.toList = items.map Itm.code
  at_ : ∀ (i : Nat) (it : Itm) (u : V), items[i]? = some it → its[i]? = some u → ItmAt K H many names ps its it u
section
variable {K : PySem.W.Frag} {H H' : Hp} {many names : Int} {ps : List Int} {isd : Bool} {a : Addr} {wd sh : Str} {its : List V} {items : List Itm}
theorem ThAt.mono (i : Imm H H') (h : ThAt K H many names ps isd a wd its sh items) : ThAt K H' many names ps isd a wd its sh items :=
  ⟨i.t h.tup, h.shp, h.len, h.few, h.codes, fun j it u e1 e2 => (h.at_ j it u e1 e2).mono i⟩
theorem ThAt.size (h : ThAt K H many names ps isd a wd its sh items) : sh.cps.size = its.length := by
  have := congrArg List.length h.codes
  rw [List.length_map, h.len] at this
  simpa using this
theorem ThAt.item (h : ThAt K H many names ps isd a wd its sh items) {i c : Nat} {u : V} (h1 : sh.cps[i]? = some c) (h2 : its[i]? = some u) : ∃ it, items[i]? = some it ∧ it.code = c ∧ ItmAt K H many names ps its it u := by
  have e : (items.map Itm.code)[i]? = some c := by rw [← h.codes]; simpa using h1
  rw [List.getElem?_map] at e
  cases q : items[i]? with
  | none => rw [q] at e; cases e
  | some it =>
    rw [q] at e
    exact ⟨it, rfl, Option.some.inj e, h.at_ i it u q h2⟩
theorem szIs_take {it : Itm} : ∀ {items : List Itm} {i : Nat}, items[i]? = some it → szIs (items.take (i + 1)) = szIs (items.take i) + it.sz
  | [], i, h => by simp at h
  | x :: r, 0, h => by
    have e : x = it := by simpa using h
    subst e
    simp [szIs]
  | x :: r, i + 1, h => by
    have := szIs_take (items := r) (i := i) (by simpa using h)
    show x.sz + szIs (r.take (i + 1)) = x.sz + szIs (r.take i) + it.sz
    omega
theorem szIs_le (items : List Itm) (i : Nat) : szIs (items.take i) ≤ szIs items := by
  induction items generalizing i with
  | nil => simp [szIs]
  | cons x r ih =>
    cases i with
    | zero => simp [szIs]
    | succ i => have := ih i; show x.sz + szIs (r.take i) ≤ x.sz + szIs r; omega
end
/-- what the items of a part, a deed are -/
def Pt.items : Pt → List Itm
  | .num _ => [.v 110] | .name _ => [.v 107] | .cell _ => [.v 99] | .two _ a b => [.x a, .x b]
def Dd.items : Dd → List Itm
  | .set _ x => [.v 107, .x x] | .put _ x => [.v 99, .x x] | .say x => [.x x] | .iff x a b => [.x x, .bd a, .bd b] | .again x b => [.x x, .bd b] | .call _ xs _ => [.v 102, .ps xs, .v 107] | .ret x => [.x x]
theorem okN {K : PySem.W.Frag} {H : Hp} {many names : Int} {ps : List Int} {its : List V} {i : Int} (h : 0 ≤ i ∧ i < 10007) : OkI K H many names ps its 110 (.int i) := .inl ⟨rfl, i, rfl, h.1, h.2⟩
theorem okK {K : PySem.W.Frag} {H : Hp} {many names : Int} {ps : List Int} {its : List V} {i : Int} (h : 0 ≤ i ∧ i < names) : OkI K H many names ps its 107 (.int i) := .inr (.inl ⟨rfl, i, rfl, h.1, h.2⟩)
theorem okC {K : PySem.W.Frag} {H : Hp} {many names : Int} {ps : List Int} {its : List V} {i : Int} (h : 0 ≤ i ∧ i < many) : OkI K H many names ps its 99 (.int i) := .inr (.inr (.inl ⟨rfl, i, rfl, h.1, h.2⟩))
theorem okF {K : PySem.W.Frag} {H : Hp} {many names : Int} {ps : List Int} {its : List V} {i : Int} (h : 0 ≤ i ∧ i < (ps.length : Int)) : OkI K H many names ps its 102 (.int i) := .inr (.inr (.inr (.inl ⟨rfl, i, rfl, h.1, h.2⟩)))
theorem okX {K : PySem.W.Frag} {H : Hp} {many names : Int} {ps : List Int} {its : List V} {v : V} : OkI K H many names ps its 120 v := .inr (.inr (.inr (.inr (.inr (.inr rfl)))))
theorem okB {K : PySem.W.Frag} {H : Hp} {many names : Int} {ps : List Int} {its : List V} {a : Addr} {xs : List V} (h : SqT K H a xs) : OkI K H many names ps its 98 (.ref a) := .inr (.inr (.inr (.inr (.inr (.inl ⟨rfl, a, xs, rfl, h⟩)))))
theorem okP {K : PySem.W.Frag} {H : Hp} {many names : Int} {ps : List Int} {its : List V} {a : Addr} {xs : List V} {f : Nat} (h : SqT K H a xs) (h1 : its[0]? = some (.int (f : Nat))) (h2 : ps[f]? = some (xs.length : Int)) : OkI K H many names ps its 112 (.ref a) := .inr (.inr (.inr (.inr (.inl ⟨rfl, a, xs, rfl, h, f, h1, h2⟩))))
theorem few4 {α : Type} {l : List α} (h : Nat.ble l.length 4 = true) : l.length ≤ 4 := Nat.le_of_ble_eq_true h
theorem vNe {c : Nat} (h : c ≠ 120 ∧ c ≠ 98 ∧ c ≠ 112) : c ≠ 120 ∧ c ≠ 98 ∧ c ≠ 112 := h
theorem thP {K : PySem.W.Frag} {H : Hp} {names cells : Nat} {ps : List Int} {p : Pt} {u : V} (h : PtAt K H p u) (hw : p.wf names cells = true) :
    ∃ a wd its sh, u = .ref a ∧ ThAt K H cells names ps false a wd its sh p.items := by
  cases p with
  | num n =>
    obtain ⟨a, rfl, ht⟩ := h
    have hw' : 0 ≤ n ∧ n < 10007 := by simpa [Pt.wf] using hw
    refine ⟨a, _, _, "n", rfl, ht, .inr (.inr ⟨rfl, by decide +kernel, by kernel_rfl⟩), rfl, few4 (by rfl), by kernel_rfl, fun i it u e1 e2 => ?_⟩
    match i, e1, e2 with
    | 0, e1, e2 => cases e1; cases e2; exact ⟨okN hw', vNe (by decide)⟩
    | i + 1, e1, e2 => simp [Pt.items] at e1
  | name k =>
    obtain ⟨a, rfl, ht⟩ := h
    have hw' : k < names := by simpa [Pt.wf] using hw
    refine ⟨a, _, _, "k", rfl, ht, .inr (.inr ⟨rfl, by decide +kernel, by kernel_rfl⟩), rfl, few4 (by rfl), by kernel_rfl, fun i it u e1 e2 => ?_⟩
    match i, e1, e2 with
    | 0, e1, e2 => cases e1; cases e2; exact ⟨okK ⟨by omega, by omega⟩, vNe (by decide)⟩
    | i + 1, e1, e2 => simp [Pt.items] at e1
  | cell k =>
    obtain ⟨a, rfl, ht⟩ := h
    have hw' : k < cells := by simpa [Pt.wf] using hw
    refine ⟨a, _, _, "c", rfl, ht, .inr (.inr ⟨rfl, by decide +kernel, by kernel_rfl⟩), rfl, few4 (by rfl), by kernel_rfl, fun i it u e1 e2 => ?_⟩
    match i, e1, e2 with
    | 0, e1, e2 => cases e1; cases e2; exact ⟨okC ⟨by omega, by omega⟩, vNe (by decide)⟩
    | i + 1, e1, e2 => simp [Pt.items] at e1
  | two o x y =>
    obtain ⟨a, vx, vy, rfl, ht, hx, hy⟩ := h
    refine ⟨a, _, _, "xx", rfl, ht, .inr (.inl ⟨rfl, by cases o <;> decide +kernel, rfl⟩), rfl, few4 (by rfl), by kernel_rfl, fun i it u e1 e2 => ?_⟩
    match i, e1, e2 with
    | 0, e1, e2 => cases e1; cases e2; exact ⟨okX, hx⟩
    | 1, e1, e2 => cases e1; cases e2; exact ⟨okX, hy⟩
    | i + 2, e1, e2 => simp [Pt.items] at e1
theorem thD {K : PySem.W.Frag} {H : Hp} {names cells : Nat} {params : List Nat} {d : Dd} {u : V} (h : DdAt K H d u) (hw : d.wf names cells params = true) :
    ∃ a wd its sh, u = .ref a ∧ ThAt K H cells names (params.map Int.ofNat) true a wd its sh d.items := by
  cases d with
  | set k x =>
    obtain ⟨a, vx, rfl, ht, hx⟩ := h
    have hw' : k < names ∧ x.wf names cells = true := by simpa [Dd.wf] using hw
    refine ⟨a, _, _, "kx", rfl, ht, .inl ⟨rfl, by kernel_rfl⟩, rfl, few4 (by rfl), by kernel_rfl, fun i it u e1 e2 => ?_⟩
    match i, e1, e2 with
    | 0, e1, e2 => cases e1; cases e2; exact ⟨okK ⟨by omega, by omega⟩, vNe (by decide)⟩
    | 1, e1, e2 => cases e1; cases e2; exact ⟨okX, hx⟩
    | i + 2, e1, e2 => simp [Dd.items] at e1
  | put k x =>
    obtain ⟨a, vx, rfl, ht, hx⟩ := h
    have hw' : k < cells ∧ x.wf names cells = true := by simpa [Dd.wf] using hw
    refine ⟨a, _, _, "cx", rfl, ht, .inl ⟨rfl, by kernel_rfl⟩, rfl, few4 (by rfl), by kernel_rfl, fun i it u e1 e2 => ?_⟩
    match i, e1, e2 with
    | 0, e1, e2 => cases e1; cases e2; exact ⟨okC ⟨by omega, by omega⟩, vNe (by decide)⟩
    | 1, e1, e2 => cases e1; cases e2; exact ⟨okX, hx⟩
    | i + 2, e1, e2 => simp [Dd.items] at e1
  | say x =>
    obtain ⟨a, vx, rfl, ht, hx⟩ := h
    refine ⟨a, _, _, "x", rfl, ht, .inl ⟨rfl, by kernel_rfl⟩, rfl, few4 (by rfl), by kernel_rfl, fun i it u e1 e2 => ?_⟩
    match i, e1, e2 with
    | 0, e1, e2 => cases e1; cases e2; exact ⟨okX, hx⟩
    | i + 1, e1, e2 => simp [Dd.items] at e1
  | ret x =>
    obtain ⟨a, vx, rfl, ht, hx⟩ := h
    refine ⟨a, _, _, "x", rfl, ht, .inl ⟨rfl, by kernel_rfl⟩, rfl, few4 (by rfl), by kernel_rfl, fun i it u e1 e2 => ?_⟩
    match i, e1, e2 with
    | 0, e1, e2 => cases e1; cases e2; exact ⟨okX, hx⟩
    | i + 1, e1, e2 => simp [Dd.items] at e1
  | iff x b c =>
    obtain ⟨a, vx, vb, vc, bs, cs, rfl, ht, hx, h1, h2, h3, h4⟩ := h
    refine ⟨a, _, _, "xbb", rfl, ht, .inl ⟨rfl, by kernel_rfl⟩, rfl, few4 (by rfl), by kernel_rfl, fun i it u e1 e2 => ?_⟩
    match i, e1, e2 with
    | 0, e1, e2 => cases e1; cases e2; exact ⟨okX, hx⟩
    | 1, e1, e2 => cases e1; cases e2; exact ⟨okB h1, _, _, rfl, h1, h2⟩
    | 2, e1, e2 => cases e1; cases e2; exact ⟨okB h3, _, _, rfl, h3, h4⟩
    | i + 3, e1, e2 => simp [Dd.items] at e1
  | again x b =>
    obtain ⟨a, vx, vb, bs, rfl, ht, hx, h1, h2⟩ := h
    refine ⟨a, _, _, "xb", rfl, ht, .inl ⟨rfl, by kernel_rfl⟩, rfl, few4 (by rfl), by kernel_rfl, fun i it u e1 e2 => ?_⟩
    match i, e1, e2 with
    | 0, e1, e2 => cases e1; cases e2; exact ⟨okX, hx⟩
    | 1, e1, e2 => cases e1; cases e2; exact ⟨okB h1, _, _, rfl, h1, h2⟩
    | i + 2, e1, e2 => simp [Dd.items] at e1
  | call f xs k =>
    obtain ⟨a, vp, vs, rfl, ht, h1, h2⟩ := h
    have hw' : params[f]? = some xs.length ∧ k < names ∧ wfPs names cells xs = true := by simpa [Dd.wf] using hw
    have hf : f < params.length := (List.getElem?_eq_some_iff.mp hw'.1).1
    refine ⟨a, _, _, "fpk", rfl, ht, .inl ⟨rfl, by kernel_rfl⟩, rfl, few4 (by rfl), by kernel_rfl, fun i it u e1 e2 => ?_⟩
    match i, e1, e2 with
    | 0, e1, e2 => cases e1; cases e2; exact ⟨okF ⟨by omega, by rw [List.length_map]; omega⟩, vNe (by decide)⟩
    | 1, e1, e2 =>
      cases e1; cases e2
      refine ⟨okP (f := f) h1 rfl ?_, _, _, rfl, h1, h2⟩
      rw [List.getElem?_map, hw'.1, h2.len]; rfl
    | 2, e1, e2 => cases e1; cases e2; exact ⟨okK ⟨by omega, by omega⟩, vNe (by decide)⟩
    | i + 3, e1, e2 => simp [Dd.items] at e1
theorem szP_items (p : Pt) : p.sz = 1 + szIs p.items := by cases p <;> simp [Pt.sz, Pt.items, szIs, Itm.sz] <;> omega
theorem szD_items (d : Dd) : d.sz = 1 + szIs d.items := by cases d <;> simp [Dd.sz, Dd.items, szIs, Itm.sz] <;> omega
theorem dpP_items (p : Pt) : ∀ it ∈ p.items, it.dp + 1 ≤ p.dp := by cases p <;> simp [Pt.dp, Pt.items, Itm.dp] <;> omega
theorem dpD_items (d : Dd) : ∀ it ∈ d.items, it.dp + 1 ≤ d.dp := by cases d <;> simp [Dd.dp, Dd.items, Itm.dp] <;> omega
theorem wfP_items (names cells : Nat) (params : List Nat) (p : Pt) (h : p.wf names cells = true) : ∀ it ∈ p.items, it.wf names cells params = true := by cases p <;> simp [Pt.wf, Pt.items, Itm.wf] at h ⊢ <;> exact h
theorem wfD_items (names cells : Nat) (params : List Nat) (d : Dd) (h : d.wf names cells params = true) : ∀ it ∈ d.items, it.wf names cells params = true := by
  cases d <;> simp [Dd.wf, Dd.items, Itm.wf] at h ⊢ <;> first | exact h | exact h.2 | exact h.2.2
theorem xP_items (p : Pt) : ∀ it ∈ p.items, (∃ c, it = .v c) ∨ ∃ q, it = .x q := by cases p <;> simp [Pt.items]
end SD
set_option Elab.async false
set_option linter.all false
set_option maxRecDepth 100000
set_option maxHeartbeats 4000000
namespace SD
open PySem PySem.Spec PyProof.Rows L2
/-! ### Looker.begin -/
abbrev LkC (K : PySem.W.Frag) (l dx : Addr) (many : Int) (pl : Addr) (names seen : Int) (ps : List Int) (R : List (Addr × HO)) : List (Addr × HO) := (l, lkO K dx many pl names seen) :: (pl, .lst (ps.map V.int)) :: R
def sp_Looker_begin (K : PySem.W.Frag) (w : World) : Sp := fun vs H Q _ => ∃ (l dx pl ta : Addr) (many names seen deep : Int) (ps : List Int) (isd : Bool) (wd sh : Str) (its : List V) (items : List Itm) (R : List (Addr × HO)), vs = [.ref l, .ref ta, .bl isd, .int deep] ∧
  Holds H (LkC K l dx many pl names seen ps R) ∧ ThAt K H many names ps isd ta wd its sh items ∧ seen < 100 ∧ 0 ≤ seen ∧ deep ≤ 8 ∧
  ∀ H', Imm H H' → Holds H' (LkC K l dx many pl names (seen + 1) ps R) → Q (.str sh) H'
abbrev n_m_Looker_begin : List Str := ["self", "thing", "is_deed", "deep", "at", "shape", "kind", "part"]
def t_m_Looker_begin (K : PySem.W.Frag) (w : World)  : TS :=
 (tSeq (tAsg (xfLooker_seen K (tVar 0)) (gName 4))
 (tSeq (tIfS (tTest (tOp rEq (tVar 4) (tC (.int 100)))) tNever tNext)
 (tSeq (xsLooker_seen K (tVar 0) (tOp (rI0 fun i j => .int (i + j)) (tVar 4) (tC (.int 1))))
 (tSeq (tIfS (tTest (tOp (rI0 fun i j => .bl (decide (j < i))) (tVar 3) (tC (.int 8)))) tNever tNext)
 (tSeq (tIfS (tOr (tNot (tB (tCB (rIsi' K) (tCons (tVar 1) (tCons (tC (.ty "tuple")) tNil))))) (tOr (tTest (tOp rEq (tCB (rLenS' K) (tCons (tVar 1) tNil)) (tC (.int 0)))) (tNot (tB (tCB (rIsi' K) (tCons (tOp (rIxT K) (tVar 1) (tC (.int 0))) (tCons (tC (.ty "str")) tNil))))))) tNever tNext)
 (tSeq (tAsg (tIf (tB (tVar 2)) (tKGet K w (tC (.ref (He.ga K "DEEDS"))) (tOp (rIxT K) (tVar 1) (tC (.int 0))) (tC .non)) (tIf (tTest (tOp (rIn K false) (tOp (rIxT K) (tVar 1) (tC (.int 0))) (tC (.ref (He.ga K "TWO"))))) (tC (.str "xx")) (tKGet K w (tC (.ref (He.ga K "PARTS"))) (tOp (rIxT K) (tVar 1) (tC (.int 0))) (tC .non)))) (gName 5))
 (tSeq (tIfS (tOr (tTest (tOp rIsN (tVar 5) (tC .non))) (tTest (tOp rNe (tCB (rLenS' K) (tCons (tVar 1) tNil)) (tOp (rI0 fun i j => .int (i + j)) (tCB rLenStr (tCons (tVar 5) tNil)) (tC (.int 1)))))) tNever tNext)
 (tSeq (tFor (iZipST K (tCons (tVar 5) (tCons (tSl (rSlT K) (tVar 1) (tPart (tC (.int 1))) tNoPart) tNil))) (gTup K 2 (gCons (gName 6) (gCons (gName 7) gNil))) (tIfS (tOr (tAnd (tTest (tOp rInS (tVar 6) (tC (.str "nkcf")))) (tNot (tB (tCall (sp_is_number K w) [] E0 (tCons (tVar 7) tNil))))) (tAnd (tTest (tOp rInS (tVar 6) (tC (.str "bp")))) (tNot (tB (tCB (rIsi' K) (tCons (tVar 7) (tCons (tC (.ty "tuple")) tNil))))))) tNever tNext))
 (tSeq (tFor (iZipST K (tCons (tVar 5) (tCons (tSl (rSlT K) (tVar 1) (tPart (tC (.int 1))) tNoPart) tNil))) (gTup K 2 (gCons (gName 6) (gCons (gName 7) gNil))) (tDrop (tMeth (He.ga K "Looker") "bounds" (sp_Looker_bounds K w) [] E0 (tVar 0) (tCons (tVar 6) (tCons (tVar 7) (tCons (tVar 1) (tCons (tVar 4) tNil)))))))
 (tRet (tVar 5)))))))))))
/-- a loop over zip(text, a new tail of a tuple) -/
theorem for_zipTail {K : PySem.W.Frag} {tb : TS} {D : Ends} {σ : L2.St} {H : Hp} {sh : Str} {ta : Addr} {x : V} {its : List V} {j i6 i7 : Nat} (hσ : σ[j]? = some (some (.ref ta))) (ht : SqT K H ta (x :: its)) (hsz : sh.cps.size = its.length)
    (Pv : Nat → L2.St → Hp → Prop) (h0 : ∀ H1, Same H H1 → Pv 0 σ H1)
    (hs : ∀ (i c : Nat) (u : V) (σ1 : L2.St) (H1 H2 : Hp) (G : Hp → Prop), sh.cps[i]? = some c → its[i]? = some u → Pv i σ1 H1 → Same H1 H2 → (∀ H3, Imm H2 H3 → G H3) →
      tb { D with nx := fun σ2 H3 => Pv (i + 1) σ2 H3 ∧ G H3, ct := fun σ2 H3 => Pv (i + 1) σ2 H3 ∧ G H3, bk := D.nx } ((σ1.set i6 (some (.str ⟨#[c]⟩))).set i7 (some u)) H2)
    (hd : ∀ σ1 H1, Pv its.length σ1 H1 → D.nx σ1 H1) :
    tFor (iZipST K (tCons (tC (.str sh)) (tCons (tSl (rSlT K) (tVar j) (tPart (tC (.int 1))) tNoPart) tNil))) (gTup K 2 (gCons (gName i6) (gCons (gName i7) gNil))) tb D σ H := by
  refine ⟨_, hσ, 1, rfl, ta, _, rfl, ht, notWhole1 x its, fun p hp => ?_⟩
  have ec : cutV (x :: its) (some 1) none = its := by rw [cut1]; rfl
  rw [ec]
  refine ⟨sh, p, its, rfl, .inl (.inl upd_same), ?_⟩
  have hm : min sh.cps.size its.length = its.length := by rw [hsz]; exact Nat.min_self _
  have W := walk_zipST (K := K) (x := sh) (b := p) (ys := its)
  rw [hm] at W
  refine for_it W (fun i σ1 H1 => Pv i σ1 H1 ∧ SqT K H1 p its) ⟨h0 _ (same_new hp _), .inl (.inl upd_same)⟩ (fun i σ1 H1 _ q => q.2) (fun i u σ1 H1 H2 hlt q y => ?_) fun σ1 H1 q => hd σ1 H1 q.1
  obtain ⟨T, c, u, rfl, hT, rfl, hc, hu⟩ := y
  have iT := Imm.new (o := .tup [.str ⟨#[c]⟩, u]) hT
  refine ⟨T, _, rfl, .inl (.inl upd_same), rfl, _, _, rfl, _, _, rfl, rfl, ?_⟩
  exact hs i c u σ1 H1 _ (fun H3 => SqT K H3 p its) hc hu q.1 (same_new hT _) fun H3 im => im.t (iT.t q.2)
theorem atI0 {α : Type} {x : α} {xs : List α} : atI (x :: xs) 0 = some x := atI_nat (j := 0) rfl
theorem Holds.same {H H' : Hp} {L : List (Addr × HO)} (h : Holds H L) (s : Same H H') : Holds H' L := ⟨h.nd, fun p m => s _ _ (h.at_ p m)⟩
theorem kc_in {c : Nat} (z : Str) (h : c ∈ z.cps.toList) : decide (c ∈ z.cps.toList) = true := decide_eq_true h
theorem pu_m_Looker_begin {K : PySem.W.Frag} {w : World} (B : Tb K w) (vs : List V) (H : Hp) (Q : VK) (E : XK) (h : sp_Looker_begin K w vs H Q E) : t_m_Looker_begin K w { nx := fun _ H' => Q .non H', rt := Q } (start n_m_Looker_begin vs) H := by
  obtain ⟨l, dx, pl, ta, many, names, seen, deep, ps, isd, wd, sh, its, items, R, rfl, hH, T, hs, hs0, hd, q⟩ := h
  have hsz := T.size
  have hlen : its.length ≤ 4 := by rw [← T.len]; exact T.few
  refine ⟨_, rfl, l, dx, _, _, _, _, rfl, hH.head, ?_⟩
  refine ⟨_, rfl, rfl, _, rfl, iteDF (fun z => by have := V.int.inj z; omega) ?_⟩
  refine ⟨_, rfl, _, _, rfl, rfl, _, rfl, l, dx, _, _, _, _, rfl, hH.head, ?_⟩
  have h1 := hH.upd (o' := lkO K dx many pl names (seen + 1))
  have i1 := hH.imm (o' := lkO K dx many pl names (seen + 1)) rfl
  generalize hHH : upd H l (lkO K dx many pl names (seen + 1)) = H1 at h1 i1 ⊢
  have T1 := T.mono i1
  refine ⟨_, rfl, _, _, rfl, rfl, _, rfl, iteDF (by omega) ?_⟩
  refine ⟨_, rfl, _, _, _, rfl, isi_tup T1.tup, _, rfl, iteF ⟨_, rfl, _, _, rfl, .inr T1.tup, rfl, _, rfl, iteDF (fun z => by have := V.int.inj z; rw [List.length_cons] at this; omega) ⟨_, rfl, ta, _, 0, _, rfl, rfl, T1.tup, atI0, _, _, _, rfl, isi_strS K H1 wd, _, rfl, iteF ?_⟩⟩⟩
  have key : ∀ D, tSeq (tIfS (tOr (tTest (tOp rIsN (tVar 5) (tC .non))) (tTest (tOp rNe (tCB (rLenS' K) (tCons (tVar 1) tNil)) (tOp (rI0 fun i j => .int (i + j)) (tCB rLenStr (tCons (tVar 5) tNil)) (tC (.int 1)))))) tNever tNext)
     (tSeq (tFor (iZipST K (tCons (tVar 5) (tCons (tSl (rSlT K) (tVar 1) (tPart (tC (.int 1))) tNoPart) tNil))) (gTup K 2 (gCons (gName 6) (gCons (gName 7) gNil))) (tIfS (tOr (tAnd (tTest (tOp rInS (tVar 6) (tC (.str "nkcf")))) (tNot (tB (tCall (sp_is_number K w) [] E0 (tCons (tVar 7) tNil))))) (tAnd (tTest (tOp rInS (tVar 6) (tC (.str "bp")))) (tNot (tB (tCB (rIsi' K) (tCons (tVar 7) (tCons (tC (.ty "tuple")) tNil))))))) tNever tNext))
     (tSeq (tFor (iZipST K (tCons (tVar 5) (tCons (tSl (rSlT K) (tVar 1) (tPart (tC (.int 1))) tNoPart) tNil))) (gTup K 2 (gCons (gName 6) (gCons (gName 7) gNil))) (tDrop (tMeth (He.ga K "Looker") "bounds" (sp_Looker_bounds K w) [] E0 (tVar 0) (tCons (tVar 6) (tCons (tVar 7) (tCons (tVar 1) (tCons (tVar 4) tNil)))))))
     (tRet (tVar 5)))) { nx := D, rt := Q } [some (.ref l), some (.ref ta), some (.bl isd), some (.int deep), some (.int seen), some (.str sh), none, none] H1 := by
    intro D
    refine ⟨_, rfl, rfl, _, rfl, iteF ⟨_, rfl, _, _, rfl, .inr T1.tup, _, rfl, sh, rfl, ?_, _, _, rfl, rfl, rfl, _, rfl, iteNF ?_ ?_⟩⟩
    · show sh.cps.size ≤ sizeLine
      rw [hsz]; exact Nat.le_trans hlen (by decide)
    · show V.int _ = V.int _
      rw [show sh.length = its.length from hsz, List.length_cons]; rfl
    refine ⟨_, rfl, ?_⟩
    refine for_zipTail (ta := ta) (x := .str wd) (its := its) (j := 1) (i6 := 6) (i7 := 7) rfl T1.tup hsz
      (fun i σ H2 => ∃ x6 x7, σ = [some (.ref l), some (.ref ta), some (.bl isd), some (.int deep), some (.int seen), some (.str sh), x6, x7] ∧ Same H1 H2)
      (fun H2 s => ⟨_, _, rfl, s⟩) (fun i c u σ1 H2 H3 G hc hu hP s2 hG => ?_) fun σ1 H2 hP => ?_
    · obtain ⟨x6, x7, rfl, s1⟩ := hP
      obtain ⟨it, e1, e2, a1, a2⟩ := (T1.mono ((Imm.same s1).trans (Imm.same s2))).item hc hu
      have fin : (fun σ2 H3 => (∃ x6 x7, σ2 = [some (V.ref l), some (.ref ta), some (.bl isd), some (.int deep), some (.int seen), some (.str sh), x6, x7] ∧ Same H1 H3) ∧ G H3) [some (.ref l), some (.ref ta), some (.bl isd), some (.int deep), some (.int seen), some (.str sh), some (.str ⟨#[c]⟩), some u] H3 :=
        ⟨⟨_, _, rfl, s1.trans s2⟩, hG _ (Imm.refl _)⟩
      have hin : ∀ {c : Nat} {z : Str} {b : Bool}, decide (c ∈ z.cps.toList) = b → ∀ {A B : Prop}, (if b = true then A else B) → (if decide (c ∈ z.cps.toList) = true then A else B) := fun e _ _ r => by rw [e]; exact r
      subst e2
      rcases a1 with ⟨e, i, rfl, _⟩ | ⟨e, i, rfl, _⟩ | ⟨e, i, rfl, _⟩ | ⟨e, i, rfl, _⟩ | ⟨e, a, xs, rfl, hx, _⟩ | ⟨e, a, xs, rfl, hx⟩ | e
      all_goals rw [e]; rw [e] at fin
      · exact ⟨_, rfl, _, _, rfl, rfl, _, rfl, hin (by decide +kernel) (iteT ⟨_, rfl, i, rfl, _, rfl, iteF ⟨_, rfl, _, _, rfl, rfl, _, rfl, hin (by decide +kernel) (iteF (iteF fin))⟩⟩)⟩
      · exact ⟨_, rfl, _, _, rfl, rfl, _, rfl, hin (by decide +kernel) (iteT ⟨_, rfl, i, rfl, _, rfl, iteF ⟨_, rfl, _, _, rfl, rfl, _, rfl, hin (by decide +kernel) (iteF (iteF fin))⟩⟩)⟩
      · exact ⟨_, rfl, _, _, rfl, rfl, _, rfl, hin (by decide +kernel) (iteT ⟨_, rfl, i, rfl, _, rfl, iteF ⟨_, rfl, _, _, rfl, rfl, _, rfl, hin (by decide +kernel) (iteF (iteF fin))⟩⟩)⟩
      · exact ⟨_, rfl, _, _, rfl, rfl, _, rfl, hin (by decide +kernel) (iteT ⟨_, rfl, i, rfl, _, rfl, iteF ⟨_, rfl, _, _, rfl, rfl, _, rfl, hin (by decide +kernel) (iteF (iteF fin))⟩⟩)⟩
      · exact ⟨_, rfl, _, _, rfl, rfl, _, rfl, hin (by decide +kernel) (iteF (iteF ⟨_, rfl, _, _, rfl, rfl, _, rfl, hin (by decide +kernel) (iteT ⟨_, rfl, _, _, _, rfl, isi_tup hx, _, rfl, iteF fin⟩)⟩))⟩
      · exact ⟨_, rfl, _, _, rfl, rfl, _, rfl, hin (by decide +kernel) (iteF (iteF ⟨_, rfl, _, _, rfl, rfl, _, rfl, hin (by decide +kernel) (iteT ⟨_, rfl, _, _, _, rfl, isi_tup hx, _, rfl, iteF fin⟩)⟩))⟩
      · exact ⟨_, rfl, _, _, rfl, rfl, _, rfl, hin (by decide +kernel) (iteF (iteF ⟨_, rfl, _, _, rfl, rfl, _, rfl, hin (by decide +kernel) (iteF (iteF fin))⟩))⟩
    · obtain ⟨x6, x7, rfl, s1⟩ := hP
      refine ⟨_, rfl, ?_⟩
      have h2 := h1.same s1
      refine for_zipTail (ta := ta) (x := .str wd) (its := its) (j := 1) (i6 := 6) (i7 := 7) rfl ((Imm.same s1).t T1.tup) hsz
        (fun i σ H3 => ∃ x6 x7, σ = [some (.ref l), some (.ref ta), some (.bl isd), some (.int deep), some (.int seen), some (.str sh), x6, x7] ∧ Imm H1 H3 ∧ Holds H3 (LkC K l dx many pl names (seen + 1) ps R))
        (fun H3 s => ⟨_, _, rfl, (Imm.same s1).trans (Imm.same s), h2.same s⟩) (fun i c u σ1 H3 H4 G hc hu hP s2 hG => ?_) fun σ1 H3 hP => ?_
      · obtain ⟨y6, y7, rfl, i3, h3⟩ := hP
        have i4 := i3.trans (Imm.same s2)
        have h4 := h3.same s2
        obtain ⟨it, e1, e2, a1, a2⟩ := (T1.mono i4).item hc hu
        subst e2
        refine ⟨_, rfl, l, dx, _, rfl, h4.head, nmLooker_bounds, _, rfl, _, rfl, _, rfl, _, rfl, ?_⟩
        exact ⟨l, dx, pl, ta, many, names, seen + 1, seen, ps, it.code, u, wd, its, R, rfl, h4, i4.t T1.tup, a1, fun H5 i5 h5 => ⟨⟨_, _, rfl, i4.trans i5, h5⟩, hG _ i5⟩⟩
      · obtain ⟨y6, y7, rfl, i3, h3⟩ := hP
        exact ⟨_, rfl, q H3 (i1.trans i3) h3⟩
  rcases T.shp with ⟨rfl, e⟩ | ⟨rfl, e1, rfl⟩ | ⟨rfl, e1, e⟩
  · refine ⟨_, rfl, _, rfl, iteT ⟨_, _, rfl, B.deeds, _, rfl, ta, _, 0, _, rfl, rfl, T1.tup, atI0, _, rfl, ?_⟩⟩
    rw [e]
    exact key _
  · refine ⟨_, rfl, _, rfl, iteF ⟨_, rfl, ta, _, 0, _, rfl, rfl, T1.tup, atI0, _, _, rfl, .inr (B.two _), rfl, rfl, _, rfl, ?_⟩⟩
    show if inV (.str wd) twoL = true then _ else _
    rw [if_pos e1]
    exact key _
  · refine ⟨_, rfl, _, rfl, iteF ⟨_, rfl, ta, _, 0, _, rfl, rfl, T1.tup, atI0, _, _, rfl, .inr (B.two _), rfl, rfl, _, rfl, ?_⟩⟩
    show if inV (.str wd) twoL = true then _ else _
    rw [if_neg (by rw [e1]; exact Bool.false_ne_true)]
    refine ⟨_, _, rfl, B.parts, _, rfl, ta, _, 0, _, rfl, rfl, T1.tup, atI0, _, rfl, ?_⟩
    rw [e]
    exact key _
end SD
set_option Elab.async false
set_option linter.all false
set_option maxRecDepth 100000
set_option maxHeartbeats 4000000
namespace SD
open PySem PySem.Spec PyProof.Rows L2
/-! ### Looker.part -/
def sp_Looker_part (n : Nat) (K : PySem.W.Frag) (w : World) : Sp := fun vs H Q _ => ∃ (l dx pl : Addr) (many names : Nat) (seen deep : Int) (ps : List Int) (p : Pt) (vp : V) (R : List (Addr × HO)), vs = [.ref l, vp, .int deep] ∧ p.dp ≤ n ∧
  Holds H (LkC K l dx many pl names seen ps R) ∧ PtAt K H p vp ∧ p.wf names many = true ∧ seen + p.sz ≤ 100 ∧ 0 ≤ seen ∧ deep + p.dp ≤ 9 ∧
  ∀ H', Imm H H' → Holds H' (LkC K l dx many pl names (seen + p.sz) ps R) → Q .non H'
abbrev n_m_Looker_part : List Str := ["self", "part", "deep", "kind", "inner"]
def t_m_Looker_part (K : PySem.W.Frag) (w : World) (n : Nat) : TS :=
 (tFor (iZipST K (tCons (tMeth (He.ga K "Looker") "begin" (sp_Looker_begin K w) [] E0 (tVar 0) (tCons (tVar 1) (tCons (tC (.bl false)) (tCons (tVar 2) tNil)))) (tCons (tSl (rSlT K) (tVar 1) (tPart (tC (.int 1))) tNoPart) tNil))) (gTup K 2 (gCons (gName 3) (gCons (gName 4) gNil))) (tIfS (tTest (tOp rEq (tVar 3) (tC (.str "x")))) (tDrop (tMeth (He.ga K "Looker") "part" (sp_Looker_part n K w) [] E0 (tVar 0) (tCons (tVar 4) (tCons (tOp (rI0 fun i j => .int (i + j)) (tVar 2) (tC (.int 1))) tNil)))) tNext))
theorem code_x {it : Itm} (h : it.code = 120) (nv : ∀ c, it = .v c → c ≠ 120 ∧ c ≠ 98 ∧ c ≠ 112) : ∃ p, it = .x p := by
  cases it with
  | v c => exact absurd h (nv c rfl).1
  | x p => exact ⟨p, rfl⟩
  | bd l => exact absurd h (by show (98 : Nat) ≠ 120; decide)
  | ps l => exact absurd h (by show (112 : Nat) ≠ 120; decide)
theorem strX {c : Nat} : (V.str ⟨#[c]⟩ = V.str "x") = (c = 120) := propext ⟨fun h => by have h2 := V.str.inj h; have h3 : (⟨#[c]⟩ : Str) = ⟨#[120]⟩ := h2; injection h3 with h4; injection h4 with h5; injection h5, fun h => by rw [h]; rfl⟩
theorem strB {c : Nat} : (V.str ⟨#[c]⟩ = V.str "b") = (c = 98) := propext ⟨fun h => by have h2 := V.str.inj h; have h3 : (⟨#[c]⟩ : Str) = ⟨#[98]⟩ := h2; injection h3 with h4; injection h4 with h5; injection h5, fun h => by rw [h]; rfl⟩
theorem strP {c : Nat} : (V.str ⟨#[c]⟩ = V.str "p") = (c = 112) := propext ⟨fun h => by have h2 := V.str.inj h; have h3 : (⟨#[c]⟩ : Str) = ⟨#[112]⟩ := h2; injection h3 with h4; injection h4 with h5; injection h5, fun h => by rw [h]; rfl⟩
theorem pu_m_Looker_part {K : PySem.W.Frag} {w : World} (n : Nat) (vs : List V) (H : Hp) (Q : VK) (E : XK) (h : sp_Looker_part (n + 1) K w vs H Q E) : t_m_Looker_part K w n { nx := fun _ H' => Q .non H', rt := Q } (start n_m_Looker_part vs) H := by
  obtain ⟨l, dx, pl, many, names, seen, deep, ps, p, vp, R, rfl, hn, hH, hp, hw, hs, hs0, hd, q⟩ := h
  obtain ⟨ta, wd, its, sh, rfl, T⟩ := thP (ps := ps) hp hw
  have hsz := szP_items p
  have hpos := szPt_pos p
  have hdp : 1 ≤ p.dp := by cases p <;> simp [Pt.dp] <;> omega
  refine ⟨_, rfl, l, dx, _, rfl, hH.head, nmLooker_begin, _, rfl, _, rfl, ?_⟩
  refine ⟨l, dx, pl, ta, many, names, seen, deep, ps, false, wd, sh, its, p.items, R, rfl, hH, T, by omega, hs0, by omega, fun H1 i1 h1 => ?_⟩
  have T1 := T.mono i1
  refine for_zipTail (ta := ta) (x := .str wd) (its := its) (j := 1) (i6 := 3) (i7 := 4) rfl T1.tup T.size
    (fun i σ H2 => ∃ x3 x4, σ = [some (.ref l), some (.ref ta), some (.int deep), x3, x4] ∧ Imm H1 H2 ∧ Holds H2 (LkC K l dx many pl names (seen + 1 + szIs (p.items.take i)) ps R))
    (fun H2 s => ⟨_, _, rfl, .same s, by simpa [szIs] using h1.same s⟩) (fun i c u σ1 H2 H3 G hc hu hP s2 hG => ?_) fun σ1 H2 hP => ?_
  · obtain ⟨x3, x4, rfl, i2, h2⟩ := hP
    have i3 := i2.trans (Imm.same s2)
    have h3 := h2.same s2
    obtain ⟨it, e1, e2, a1, a2⟩ := (T1.mono i3).item hc hu
    have hst := szIs_take e1
    have hle := szIs_le p.items (i + 1)
    refine ⟨_, rfl, rfl, _, rfl, ?_⟩
    refine ite2 (fun hx => ?_) fun hx => ?_
    · have hc : c = 120 := by rw [← strX]; exact of_decide_eq_true hx
      have hm := List.mem_of_getElem? e1
      rcases xP_items p it hm with ⟨cc, rfl⟩ | ⟨y, rfl⟩
      · exact absurd (e2.trans hc) a2.1
      have hdy := dpP_items p _ hm
      have hwy := wfP_items names many [] p hw _ hm
      have e0 : (Itm.x y).sz = y.sz := rfl
      have e3 : (Itm.x y).dp = y.dp := rfl
      rw [e0] at hst; rw [e3] at hdy
      refine ⟨_, rfl, l, dx, _, rfl, h3.head, nmLooker_part, _, rfl, _, rfl, _, _, rfl, rfl, ?_⟩
      refine ⟨l, dx, pl, many, names, seen + 1 + szIs (p.items.take i), deep + 1, ps, y, u, R, rfl, by omega, h3, a2, hwy, by omega, by omega, by omega, fun H4 i4 h4 => ?_⟩
      refine ⟨⟨_, _, rfl, i3.trans i4, ?_⟩, hG _ i4⟩
      rw [hst]
      have : seen + 1 + (szIs (p.items.take i) : Int) + (y.sz : Int) = seen + 1 + ((szIs (p.items.take i) + y.sz : Nat) : Int) := by omega
      rw [← this]; exact h4
    · have hz : it.sz = 0 := by
        rcases xP_items p it (List.mem_of_getElem? e1) with ⟨cc, rfl⟩ | ⟨y, rfl⟩
        · rfl
        · exact absurd (by rw [decide_eq_true_eq, strX, ← e2]; rfl) hx
      rw [hz] at hst
      refine ⟨⟨_, _, rfl, i3, ?_⟩, hG _ (Imm.refl _)⟩
      rw [hst]; exact h3
  · obtain ⟨x3, x4, rfl, i2, h2⟩ := hP
    refine q H2 (i1.trans i2) ?_
    rw [← T.len, List.take_length] at h2
    have : seen + 1 + (szIs p.items : Int) = seen + (p.sz : Int) := by omega
    rw [← this]; exact h2
/-! ### Looker.body -/
def sp_Looker_body (n : Nat) (K : PySem.W.Frag) (w : World) : Sp := fun vs H Q _ => ∃ (l dx pl : Addr) (many names : Nat) (seen deep : Int) (params : List Nat) (b : List Dd) (a : Addr) (bs : List V) (R : List (Addr × HO)), vs = [.ref l, .ref a, .int deep] ∧ dpDs b < n ∧
  Holds H (LkC K l dx many pl names seen (params.map Int.ofNat) R) ∧ SqT K H a bs ∧ DdsAt K H b bs ∧ wfDs names many params b = true ∧ seen + szDs b ≤ 100 ∧ 0 ≤ seen ∧ deep + dpDs b ≤ 9 ∧
  ∀ H', Imm H H' → Holds H' (LkC K l dx many pl names (seen + szDs b) (params.map Int.ofNat) R) → Q .non H'
theorem szDs_take {d : Dd} : ∀ {b : List Dd} {i : Nat}, b[i]? = some d → szDs (b.take (i + 1)) = szDs (b.take i) + d.sz
  | [], i, h => by simp at h
  | x :: r, 0, h => by
    have e : x = d := by simpa using h
    subst e
    simp [szDs]
  | x :: r, i + 1, h => by
    have := szDs_take (b := r) (i := i) (by simpa using h)
    show x.sz + szDs (r.take (i + 1)) = x.sz + szDs (r.take i) + d.sz
    omega
theorem szDs_le : ∀ (b : List Dd) (i : Nat), szDs (b.take i) ≤ szDs b
  | [], i => by simp [szDs]
  | x :: r, 0 => by simp [szDs]
  | x :: r, i + 1 => by have := szDs_le r i; show x.sz + szDs (r.take i) ≤ x.sz + szDs r; omega
theorem dpDs_get {d : Dd} : ∀ {b : List Dd} {i : Nat}, b[i]? = some d → d.dp ≤ dpDs b
  | [], i, h => by simp at h
  | x :: r, 0, h => by
    have e : x = d := by simpa using h
    subst e
    show x.dp ≤ max x.dp (dpDs r)
    omega
  | x :: r, i + 1, h => by have := dpDs_get (b := r) (i := i) (by simpa using h); show d.dp ≤ max x.dp (dpDs r); omega
theorem wfDs_get {names cells : Nat} {params : List Nat} {d : Dd} : ∀ {b : List Dd} {i : Nat}, wfDs names cells params b = true → b[i]? = some d → d.wf names cells params = true
  | [], i, _, h => by simp at h
  | x :: r, 0, hw, h => by
    have e : x = d := by simpa using h
    subst e
    simp only [wfDs, Bool.and_eq_true] at hw; exact hw.1
  | x :: r, i + 1, hw, h => by simp only [wfDs, Bool.and_eq_true] at hw; exact wfDs_get (b := r) (i := i) hw.2 (by simpa using h)
theorem szPs_take {d : Pt} : ∀ {b : List Pt} {i : Nat}, b[i]? = some d → szPs (b.take (i + 1)) = szPs (b.take i) + d.sz
  | [], i, h => by simp at h
  | x :: r, 0, h => by
    have e : x = d := by simpa using h
    subst e
    simp [szPs]
  | x :: r, i + 1, h => by
    have := szPs_take (b := r) (i := i) (by simpa using h)
    show x.sz + szPs (r.take (i + 1)) = x.sz + szPs (r.take i) + d.sz
    omega
theorem szPs_le : ∀ (b : List Pt) (i : Nat), szPs (b.take i) ≤ szPs b
  | [], i => by simp [szPs]
  | x :: r, 0 => by simp [szPs]
  | x :: r, i + 1 => by have := szPs_le r i; show x.sz + szPs (r.take i) ≤ x.sz + szPs r; omega
theorem dpPs_get {d : Pt} : ∀ {b : List Pt} {i : Nat}, b[i]? = some d → d.dp ≤ dpPs b
  | [], i, h => by simp at h
  | x :: r, 0, h => by
    have e : x = d := by simpa using h
    subst e
    show x.dp ≤ max x.dp (dpPs r)
    omega
  | x :: r, i + 1, h => by have := dpPs_get (b := r) (i := i) (by simpa using h); show d.dp ≤ max x.dp (dpPs r); omega
theorem wfPs_get {names cells : Nat} {d : Pt} : ∀ {b : List Pt} {i : Nat}, wfPs names cells b = true → b[i]? = some d → d.wf names cells = true
  | [], i, _, h => by simp at h
  | x :: r, 0, hw, h => by
    have e : x = d := by simpa using h
    subst e
    simp only [wfPs, Bool.and_eq_true] at hw; exact hw.1
  | x :: r, i + 1, hw, h => by simp only [wfPs, Bool.and_eq_true] at hw; exact wfPs_get (b := r) (i := i) hw.2 (by simpa using h)
abbrev n_m_Looker_body : List Str := ["self", "body", "deep", "deed", "kind", "inner", "one"]
def t_m_Looker_body (K : PySem.W.Frag) (w : World) (n : Nat) : TS :=
 (tFor (iTup K (tVar 1)) (gName 3) (tFor (iZipST K (tCons (tMeth (He.ga K "Looker") "begin" (sp_Looker_begin K w) [] E0 (tVar 0) (tCons (tVar 3) (tCons (tC (.bl true)) (tCons (tVar 2) tNil)))) (tCons (tSl (rSlT K) (tVar 3) (tPart (tC (.int 1))) tNoPart) tNil))) (gTup K 2 (gCons (gName 4) (gCons (gName 5) gNil))) (tIfS (tTest (tOp rEq (tVar 4) (tC (.str "x")))) (tDrop (tMeth (He.ga K "Looker") "part" (sp_Looker_part n K w) [] E0 (tVar 0) (tCons (tVar 5) (tCons (tOp (rI0 fun i j => .int (i + j)) (tVar 2) (tC (.int 1))) tNil)))) (tIfS (tTest (tOp rEq (tVar 4) (tC (.str "b")))) (tDrop (tMeth (He.ga K "Looker") "body" (sp_Looker_body n K w) [] E0 (tVar 0) (tCons (tVar 5) (tCons (tOp (rI0 fun i j => .int (i + j)) (tVar 2) (tC (.int 1))) tNil)))) (tIfS (tTest (tOp rEq (tVar 4) (tC (.str "p")))) (tFor (iTup K (tVar 5)) (gName 6) (tDrop (tMeth (He.ga K "Looker") "part" (sp_Looker_part n K w) [] E0 (tVar 0) (tCons (tVar 6) (tCons (tOp (rI0 fun i j => .int (i + j)) (tVar 2) (tC (.int 1))) tNil))))) tNext)))))
theorem castAdd {a b : Nat} {s : Int} : s + (a : Int) + (b : Int) = s + ((a + b : Nat) : Int) := by omega
theorem pu_m_Looker_body {K : PySem.W.Frag} {w : World} (n : Nat) (vs : List V) (H : Hp) (Q : VK) (E : XK) (h : sp_Looker_body (n + 1) K w vs H Q E) : t_m_Looker_body K w n { nx := fun _ H' => Q .non H', rt := Q } (start n_m_Looker_body vs) H := by
  obtain ⟨l, dx, pl, many, names, seen, deep, params, b, a, bs, R, rfl, hn, hH, ht, hb, hw, hs, hs0, hd, q⟩ := h
  have hlen := hb.len
  refine ⟨_, rfl, a, rfl, ⟨_, ht⟩, ?_⟩
  refine for_it (walk_tup (xs := bs)) (fun i σ H1 => ∃ x3 x4 x5 x6, σ = [some (.ref l), some (.ref a), some (.int deep), x3, x4, x5, x6] ∧ Imm H H1 ∧ Holds H1 (LkC K l dx many pl names (seen + szDs (b.take i)) (params.map Int.ofNat) R))
    ⟨_, _, _, _, rfl, .refl _, by simpa [szDs] using hH⟩ (fun i σ H1 _ ⟨_, _, _, _, _, im, _⟩ => im.t ht) (fun i u σ H1 H2 hlt hP hY => ?_) fun σ H1 hP => ?_
  · obtain ⟨x3, x4, x5, x6, rfl, i1, h1⟩ := hP
    obtain ⟨rfl, hu⟩ := hY
    obtain ⟨d, ed, hdd⟩ := hb.get hu
    have hdw := wfDs_get hw ed
    have hddp := dpDs_get ed
    have hst := szDs_take ed
    have hle := szDs_le b (i + 1)
    have hsz := szD_items d
    have hpos := szDd_pos d
    have hdp1 : 1 ≤ d.dp := by cases d <;> simp [Dd.dp] <;> omega
    obtain ⟨ta, wd, its, sh, rfl, T⟩ := thD (hdd.mono i1) hdw
    have hszI : (d.sz : Int) = 1 + (szIs d.items : Int) := by omega
    refine ⟨_, rfl, l, dx, _, rfl, h1.head, nmLooker_begin, _, rfl, _, rfl, ?_⟩
    refine ⟨l, dx, pl, ta, many, names, _, deep, _, true, wd, sh, its, d.items, R, rfl, h1, T, by omega, by omega, by omega, fun H2 i2 h2 => ?_⟩
    have T1 := T.mono i2
    generalize hS : seen + (szDs (b.take i) : Int) + 1 = S at h2
    refine for_zipTail (ta := ta) (x := .str wd) (its := its) (j := 3) (i6 := 4) (i7 := 5) rfl T1.tup T.size
      (fun k σ H3 => ∃ y4 y5 y6, σ = [some (.ref l), some (.ref a), some (.int deep), some (.ref ta), y4, y5, y6] ∧ Imm H2 H3 ∧ Holds H3 (LkC K l dx many pl names (S + szIs (d.items.take k)) (params.map Int.ofNat) R))
      (fun H3 s => ⟨_, _, _, rfl, .same s, by simpa [szIs] using h2.same s⟩) (fun k c u σ1 H3 H4 G hc hu hP s2 hG => ?_) fun σ1 H3 hP => ?_
    · obtain ⟨y4, y5, y6, rfl, i3, h3⟩ := hP
      have i4 := i3.trans (Imm.same s2)
      have h4 := h3.same s2
      obtain ⟨it, e1, e2, a1, a2⟩ := (T1.mono i4).item hc hu
      have hst2 := szIs_take e1
      have hle2 := szIs_le d.items (k + 1)
      have hm := List.mem_of_getElem? e1
      have hdy := dpD_items d _ hm
      have hwy := wfD_items names many params d hdw _ hm
      refine ⟨_, rfl, rfl, _, rfl, ?_⟩
      cases it with
      | v cc =>
        have hcc : c = cc := e2.symm
        subst hcc
        obtain ⟨n1, n2, n3⟩ := a2
        refine iteDF (by rw [strX]; exact n1) ⟨_, rfl, rfl, _, rfl, iteDF (by rw [strB]; exact n2) ⟨_, rfl, rfl, _, rfl, iteDF (by rw [strP]; exact n3) ?_⟩⟩
        refine ⟨⟨_, _, _, rfl, i4, ?_⟩, hG _ (Imm.refl _)⟩
        rw [hst2]; exact h4
      | x y =>
        have hcc : c = 120 := e2.symm
        subst hcc
        have hst3 : szIs (d.items.take (k + 1)) = szIs (d.items.take k) + y.sz := hst2
        have hdy3 : y.dp + 1 ≤ d.dp := hdy
        refine iteDT (by rw [strX]) ?_
        refine ⟨_, rfl, l, dx, _, rfl, h4.head, nmLooker_part, _, rfl, _, rfl, _, _, rfl, rfl, ?_⟩
        refine ⟨l, dx, pl, many, names, _, deep + 1, _, y, u, R, rfl, by omega, h4, a2, hwy, by omega, by omega, by omega, fun H5 i5 h5 => ⟨⟨_, _, _, rfl, i4.trans i5, ?_⟩, hG _ i5⟩⟩
        rw [hst3, ← castAdd]; exact h5
      | bd y =>
        have hcc : c = 98 := e2.symm
        subst hcc
        obtain ⟨ba, bvs, rfl, g1, g2⟩ := a2
        have hst3 : szIs (d.items.take (k + 1)) = szIs (d.items.take k) + szDs y := hst2
        have hdy3 : dpDs y + 1 ≤ d.dp := hdy
        refine iteDF (by rw [strX]; decide) ⟨_, rfl, rfl, _, rfl, iteDT (by rw [strB]) ?_⟩
        refine ⟨_, rfl, l, dx, _, rfl, h4.head, nmLooker_body, _, rfl, _, rfl, _, _, rfl, rfl, ?_⟩
        refine ⟨l, dx, pl, many, names, _, deep + 1, params, y, ba, bvs, R, rfl, by omega, h4, g1, g2, hwy, by omega, by omega, by omega, fun H5 i5 h5 => ⟨⟨_, _, _, rfl, i4.trans i5, ?_⟩, hG _ i5⟩⟩
        rw [hst3, ← castAdd]; exact h5
      | ps y =>
        have hcc : c = 112 := e2.symm
        subst hcc
        obtain ⟨ba, bvs, rfl, g1, g2⟩ := a2
        have hst3 : szIs (d.items.take (k + 1)) = szIs (d.items.take k) + szPs y := hst2
        have hdy3 : dpPs y + 1 ≤ d.dp := hdy
        have hlen2 := g2.len
        refine iteDF (by rw [strX]; decide) ⟨_, rfl, rfl, _, rfl, iteDF (by rw [strB]; decide) ⟨_, rfl, rfl, _, rfl, iteDT (by rw [strP]) ?_⟩⟩
        refine ⟨_, rfl, ba, rfl, ⟨_, g1⟩, ?_⟩
        refine for_it (walk_tup (xs := bvs)) (fun j σ H5 => ∃ z6, σ = [some (.ref l), some (.ref a), some (.int deep), some (.ref ta), some (.str ⟨#[112]⟩), some (.ref ba), z6] ∧ Imm H4 H5 ∧ Holds H5 (LkC K l dx many pl names (S + szIs (d.items.take k) + szPs (y.take j)) (params.map Int.ofNat) R))
          ⟨_, rfl, .refl _, by simpa [szPs] using h4⟩ (fun j σ H5 _ ⟨_, _, im, _⟩ => im.t g1) (fun j u2 σ H5 H6 hlt2 hP hY => ?_) fun σ H5 hP => ?_
        · obtain ⟨z6, rfl, i5, h5⟩ := hP
          obtain ⟨rfl, hu2⟩ := hY
          obtain ⟨pp, ep, hpp⟩ := g2.get hu2
          have w1 := wfPs_get (show wfPs names many y = true from hwy) ep
          have w2 := dpPs_get ep
          have w3 := szPs_take ep
          have w4 := szPs_le y (j + 1)
          refine ⟨_, rfl, l, dx, _, rfl, h5.head, nmLooker_part, _, rfl, _, rfl, _, _, rfl, rfl, ?_⟩
          refine ⟨l, dx, pl, many, names, _, deep + 1, _, pp, u2, R, rfl, by omega, h5, hpp.mono i5, w1, by omega, by omega, by omega, fun H6 i6 h6 => ⟨_, rfl, i5.trans i6, ?_⟩⟩
          rw [w3, ← castAdd]; exact h6
        · obtain ⟨z6, rfl, i5, h5⟩ := hP
          refine ⟨⟨_, _, _, rfl, i4.trans i5, ?_⟩, hG _ i5⟩
          rw [hlen2, List.take_length] at h5
          rw [hst3, ← castAdd]; exact h5
    · obtain ⟨y4, y5, y6, rfl, i3, h3⟩ := hP
      refine ⟨_, _, _, _, rfl, i1.trans (i2.trans i3), ?_⟩
      rw [← T.len, List.take_length] at h3
      have : S + (szIs d.items : Int) = seen + (szDs (b.take (i + 1)) : Int) := by omega
      rw [← this]; exact h3
  · obtain ⟨x3, x4, x5, x6, rfl, i1, h1⟩ := hP
    refine q H1 i1 ?_
    rw [hlen, List.take_length] at h1
    exact h1
end SD
set_option Elab.async false
set_option linter.all false
set_option maxRecDepth 100000
set_option maxHeartbeats 4000000
namespace SD
open PySem PySem.Spec PyProof.Rows L2
/-! ### need_head -/
def sp_need_head (K : PySem.W.Frag) (w : World) : Sp := fun vs H Q _ => ∃ (p : Prog) (vp : V), vs = [vp] ∧ ProgAt K H p vp ∧ p.Wf ∧ ∀ H', Same H H' → Q .non H'
abbrev n_f_need_head : List Str := ["program", "cells", "funs", "hands", "number", "params", "names", "body", "fun"]
def t_f_need_head (K : PySem.W.Frag) (w : World)  : TS :=
 (tSeq (tAsg (tVar 0) (gTup K 3 (gCons (gName 1) (gCons (gName 2) (gCons (gName 3) gNil)))))
 (tSeq (tIfS (tOr (tNot (tTest (tChain (rI0 fun i j => .bl (decide (i ≤ j))) (rI0 fun i j => .bl (decide (i ≤ j))) (tC (.int 1)) (tCB (rLenS' K) (tCons (tVar 1) tNil)) (tC (.int 8))))) (tTest (tOp (rEqNil K true) (tLc (iTup K (tVar 1)) (gName 4) (tNot (tTest (tChain (rI0 fun i j => .bl (decide (i ≤ j))) (rI0 fun i j => .bl (decide (i < j))) (tC (.int 0)) (tVar 4) (tC (.int 10007))))) (tVar 4) [4]) (tLst tNil)))) tNever tNext)
 (tSeq (tIfS (tNot (tTest (tChain (rI0 fun i j => .bl (decide (i ≤ j))) (rI0 fun i j => .bl (decide (i ≤ j))) (tC (.int 1)) (tCB (rLenS' K) (tCons (tVar 2) tNil)) (tC (.int 4))))) tNever tNext)
 (tSeq (tFor (iTup K (tVar 2)) (gTup K 3 (gCons (gName 5) (gCons (gName 6) (gCons (gName 7) gNil)))) (tIfS (tNot (tTest (tChain3 (rI0 fun i j => .bl (decide (i ≤ j))) (rI0 fun i j => .bl (decide (i ≤ j))) (rI0 fun i j => .bl (decide (i ≤ j))) (tC (.int 0)) (tVar 5) (tVar 6) (tC (.int 4))))) tNever tNext))
 (tSeq (tIfS (tNot (tTest (tChain (rI0 fun i j => .bl (decide (i ≤ j))) (rI0 fun i j => .bl (decide (i ≤ j))) (tC (.int 1)) (tCB (rLenS' K) (tCons (tVar 3) tNil)) (tC (.int 3))))) tNever tNext)
 (tFor (iTup K (tVar 3)) (gName 8) (tIfS (tOr (tNot (tTest (tChain (rI0 fun i j => .bl (decide (i ≤ j))) (rI0 fun i j => .bl (decide (i < j))) (tC (.int 0)) (tVar 8) (tCB (rLenS' K) (tCons (tVar 2) tNil))))) (tTest (tOp (rI0 fun i j => .bl (decide (j < i))) (tOp (rIxT K) (tOp (rIxT K) (tVar 2) (tVar 8)) (tC (.int 0))) (tC (.int 0))))) tNever tNext)))))))
theorem pu_f_need_head {K : PySem.W.Frag} {w : World} (vs : List V) (H : Hp) (Q : VK) (E : XK) (h : sp_need_head K w vs H Q E) : t_f_need_head K w { nx := fun _ H' => Q .non H', rt := Q } (start n_f_need_head vs) H := by
  obtain ⟨p, vp, rfl, ⟨a, c, f, hd, fs, rfl, h1, h2, h3, h4, h5⟩, W, q⟩ := h
  have hl2 : (p.cells.map V.int).length = p.cells.length := List.length_map _
  have hl3 := h4.len
  have hl5 : (p.hands.map fun n => V.int (n : Nat)).length = p.hands.length := List.length_map _
  have c1 := W.cells1
  have c8 := W.cells8
  refine ⟨_, rfl, a, _, rfl, h1, rfl, _, _, rfl, _, _, rfl, _, _, rfl, rfl, ?_⟩
  refine ⟨_, rfl, c, _, rfl, .inr h2, _, _, rfl, rfl, _, rfl, iteDT (by rw [hl2]; omega) ⟨_, _, rfl, rfl, _, rfl, ?_⟩⟩
  rw [decide_eq_true (show ((List.map V.int p.cells).length : Int) ≤ 8 by rw [hl2]; omega)]
  refine iteF ?_
  refine ⟨_, rfl, c, rfl, ⟨_, h2⟩, fun D hD => ?_⟩
  refine lc_it (walk_tup (xs := p.cells.map V.int)) (fun i H1 => Same H H1 ∧ H1 D = some (.lst [])) ⟨same_new hD _, upd_same⟩ (fun i H1 _ q => (Imm.same q.1).t h2) (fun i x H1 H2 hlt hP hY => ?_) fun H1 hP => ?_
  · obtain ⟨rfl, hx⟩ := hY
    rw [List.getElem?_map] at hx
    obtain ⟨n, hn, rfl⟩ := Option.map_eq_some_iff.mp hx
    have hr := W.cellsR n (List.mem_of_getElem? hn)
    refine ⟨rfl, _, rfl, _, _, rfl, rfl, _, rfl, iteDT hr.1 ⟨_, _, rfl, rfl, _, rfl, ?_⟩⟩
    rw [decide_eq_true (show n < 10007 from hr.2)]
    exact iteF hP
  obtain ⟨s1, hD1⟩ := hP
  refine ⟨Nat.zero_le _, fun e he => ?_⟩
  refine ⟨D, e, [], rfl, rfl, SqL.of (by rw [upd_ne (ne_of_none hD1 he)]; exact hD1), SqL.of upd_same, _, rfl, iteF ?_⟩
  have s2 := s1.trans (same_new he (.lst []))
  generalize upd H1 e (.lst []) = H2 at s2
  have f1 := W.funs1
  have f4 := W.funs4
  refine ⟨_, rfl, f, _, rfl, .inr ((Imm.same s2).t h3), _, _, rfl, rfl, _, rfl, iteDT (by rw [hl3]; omega) ⟨_, _, rfl, rfl, _, rfl, ?_⟩⟩
  rw [decide_eq_true (show (fs.length : Int) ≤ 4 by rw [hl3]; omega)]
  refine iteF ?_
  refine ⟨_, rfl, f, rfl, ⟨_, (Imm.same s2).t h3⟩, ?_⟩
  refine for_it (walk_tup (xs := fs)) (fun i σ H3 => ∃ x5 x6 x7, σ = [some (.ref a), some (.ref c), some (.ref f), some (.ref hd), none, x5, x6, x7, none] ∧ Same H H3) ⟨_, _, _, rfl, s2⟩ (fun i σ H3 _ ⟨_, _, _, _, s⟩ => (Imm.same s).t h3) (fun i u σ H3 H4 hlt hP hY => ?_) fun σ H3 hP => ?_
  · obtain ⟨x5, x6, x7, rfl, s3⟩ := hP
    obtain ⟨rfl, hu⟩ := hY
    obtain ⟨g, eg, g1⟩ := h4.get hu
    obtain ⟨ga, vb, rfl, g2, _⟩ := g1
    have hg := W.names g (List.mem_of_getElem? eg)
    refine ⟨ga, _, rfl, (Imm.same s3).t g2, rfl, _, _, rfl, _, _, rfl, _, _, rfl, rfl, ?_⟩
    refine ⟨_, rfl, _, _, rfl, rfl, _, rfl, iteDT (by omega) ⟨_, rfl, _, _, rfl, rfl, _, rfl, iteDT (by omega) ⟨_, _, rfl, rfl, _, rfl, ?_⟩⟩⟩
    rw [decide_eq_true (show ((g.names : Nat) : Int) ≤ 4 by omega)]
    exact iteF ⟨_, _, _, rfl, s3⟩
  obtain ⟨x5, x6, x7, rfl, s3⟩ := hP
  have d1 := W.hands1
  have d3 := W.hands3
  refine ⟨_, rfl, hd, _, rfl, .inr ((Imm.same s3).t h5), _, _, rfl, rfl, _, rfl, iteDT (by rw [hl5]; omega) ⟨_, _, rfl, rfl, _, rfl, ?_⟩⟩
  rw [decide_eq_true (show ((List.map (fun n => V.int (n : Nat)) p.hands).length : Int) ≤ 3 by rw [hl5]; omega)]
  refine iteF ?_
  refine ⟨_, rfl, hd, rfl, ⟨_, (Imm.same s3).t h5⟩, ?_⟩
  refine for_it (walk_tup (xs := p.hands.map fun n => V.int (n : Nat))) (fun i σ H4 => ∃ x8, σ = [some (.ref a), some (.ref c), some (.ref f), some (.ref hd), none, x5, x6, x7, x8] ∧ Same H H4) ⟨_, rfl, s3⟩ (fun i σ H4 _ ⟨_, _, s⟩ => (Imm.same s).t h5) (fun i u σ H4 H5 hlt hP hY => ?_) fun σ H4 hP => ?_
  · obtain ⟨x8, rfl, s4⟩ := hP
    obtain ⟨rfl, hu⟩ := hY
    rw [List.getElem?_map] at hu
    obtain ⟨n, hn, rfl⟩ := Option.map_eq_some_iff.mp hu
    have hr := W.handsR n (List.mem_of_getElem? hn)
    have hr2 : p.funs[n]?.map Fn.params = some 0 := by rw [← List.getElem?_map]; exact hr
    obtain ⟨g, eg, gp⟩ := Option.map_eq_some_iff.mp hr2
    have hlt3 : n < p.funs.length := (List.getElem?_eq_some_iff.mp eg).1
    have hlt4 : n < fs.length := by omega
    obtain ⟨g', eg', g1⟩ := h4.get (List.getElem?_eq_getElem hlt4)
    have : g' = g := by rw [eg] at eg'; exact (Option.some.inj eg').symm
    subst this
    obtain ⟨ga, vb, e3, g2, _⟩ := g1
    have i4 := Imm.same s4
    refine ⟨_, rfl, _, _, rfl, rfl, _, rfl, iteDT (by omega) ⟨_, rfl, f, _, rfl, .inr (i4.t h3), _, _, rfl, rfl, _, rfl, ?_⟩⟩
    rw [decide_eq_true (show ((n : Nat) : Int) < (fs.length : Int) by omega)]
    refine iteF ⟨_, rfl, _, rfl, f, _, _, _, rfl, rfl, i4.t h3, atI_nat (List.getElem?_eq_getElem hlt4), ga, _, 0, _, e3, rfl, i4.t g2, rfl, _, _, rfl, rfl, _, rfl, ?_⟩
    rw [gp]
    exact iteF ⟨_, rfl, s4⟩
  obtain ⟨x8, rfl, s4⟩ := hP
  exact q H4 s4
/-! ### need_program -/
def sp_need_program (K : PySem.W.Frag) (w : World) : Sp := fun vs H Q _ => ∃ (p : Prog) (vp : V) (R : List (Addr × HO)), vs = [vp] ∧ ProgAt K H p vp ∧ p.Wf ∧ Holds H R ∧ ∀ H', Imm H H' → Holds H' R → Q .non H'
abbrev n_f_need_program : List Str := ["program", "cells", "funs", "hands", "looker", "params", "names", "body"]
def t_f_need_program (K : PySem.W.Frag) (w : World)  : TS :=
 (tSeq (tDrop (tCall (sp_need_head K w) [] E0 (tCons (tVar 0) tNil)))
 (tSeq (tAsg (tVar 0) (gTup K 3 (gCons (gName 1) (gCons (gName 2) (gCons (gName 3) gNil)))))
 (tSeq (tAsg (tMake (He.ga K "Looker") (sp_Looker_init K w) [] E0 (tCons (tCB (rLenS' K) (tCons (tVar 1) tNil)) (tCons (tLc (iTup K (tVar 2)) (gTup K 3 (gCons (gName 5) (gCons (gName 6) (gCons (gName 7) gNil)))) tYes (tVar 5) [5, 6, 7]) tNil))) (gName 4))
 (tFor (iTup K (tVar 2)) (gTup K 3 (gCons (gName 5) (gCons (gName 6) (gCons (gName 7) gNil)))) (tSeq (xsLooker_names K (tVar 4) (tVar 6))
 (tDrop (tMeth (He.ga K "Looker") "body" (sp_Looker_body 9 K w) [] E0 (tVar 4) (tCons (tVar 7) (tCons (tC (.int 1)) tNil)))))))))
theorem sum_take_succ {fs : List Fn} {i : Nat} {g : Fn} (h : fs[i]? = some g) : ((fs.take (i + 1)).map fun f => szDs f.body).sum = ((fs.take i).map fun f => szDs f.body).sum + szDs g.body := by
  rw [List.take_add_one, h]
  simp
theorem sum_take_le (fs : List Fn) (i : Nat) : ((fs.take i).map fun f => szDs f.body).sum ≤ (fs.map fun f => szDs f.body).sum := by
  induction fs generalizing i with
  | nil => simp
  | cons x r ih =>
    cases i with
    | zero => simp
    | succ i => have := ih i; simp only [List.take_succ_cons, List.map_cons, List.sum_cons]; omega
theorem small_sz {n : Nat} (h : n ≤ 100) : n < sizeLine := Nat.lt_of_le_of_lt h (by decide)
theorem pu_f_need_program {K : PySem.W.Frag} {w : World} (vs : List V) (H : Hp) (Q : VK) (E : XK) (h : sp_need_program K w vs H Q E) : t_f_need_program K w { nx := fun _ H' => Q .non H', rt := Q } (start n_f_need_program vs) H := by
  obtain ⟨p, vp, R, rfl, hp, W, hH, q⟩ := h
  refine ⟨_, rfl, p, vp, rfl, hp, W, fun H1 s1 => ?_⟩
  have i1 := Imm.same s1
  have hH1 := hH.same s1
  obtain ⟨a, c, f, hd, fs, rfl, h1, h2, h3, h4, h5⟩ := hp.mono i1
  have hl3 := h4.len
  have hl2 : (p.cells.map V.int).length = p.cells.length := List.length_map _
  have f4 := W.funs4
  refine ⟨_, rfl, a, _, rfl, h1, rfl, _, _, rfl, _, _, rfl, _, _, rfl, rfl, ?_⟩
  refine ⟨_, rfl, c, _, rfl, .inr h2, _, rfl, f, rfl, ⟨_, h3⟩, fun D hD => ?_⟩
  refine lc_it (walk_tup (xs := fs)) (fun i H2 => Imm H1 H2 ∧ Holds H2 ((D, .lst (((p.params.take i).map Int.ofNat).map V.int)) :: R)) ⟨.new hD, by simpa using hH1.new hD⟩ (fun i H2 _ q => q.1.t h3) (fun i x H2 H3 hlt hP hY => ?_) fun H2 hP => ?_
  · obtain ⟨rfl, hx⟩ := hY
    obtain ⟨i2, hh⟩ := hP
    obtain ⟨g, eg, ga, vb, rfl, g2, _⟩ := h4.get hx
    refine ⟨ga, _, rfl, i2.t g2, rfl, _, _, rfl, _, _, rfl, _, _, rfl, rfl, rfl, ?_⟩
    refine ⟨_, rfl, _, hh.head, ?_, ?_⟩
    · rw [List.length_map, List.length_map, List.length_take]
      exact small_sz (by omega)
    · refine ⟨i2.trans (hh.imm rfl), ?_⟩
      have e : p.params[i]? = some g.params := by unfold Prog.params; rw [List.getElem?_map, eg]; rfl
      rw [List.take_add_one, e]
      have h9 := hh.upd (o' := .lst (((p.params.take i).map Int.ofNat).map V.int ++ [.int (g.params : Nat)]))
      simpa using h9
  obtain ⟨i2, hh⟩ := hP
  intro x dx hx hdx hne
  have hpar : (List.map V.int (List.map Int.ofNat (List.take fs.length p.params))) = (p.params.map Int.ofNat).map V.int := by
    rw [List.take_of_length_le (by unfold Prog.params; rw [List.length_map]; omega)]
  rw [hpar] at hh
  have hh2 := (hh.skip (o := .own x) hdx)
  have hx2 : upd H2 dx (.own x) x = none := by rw [upd_ne hne.symm]; exact hx
  have hh3 := hh2.new (o := .ins (He.ga K "Looker") dx []) hx2
  refine ⟨x, dx, D, _, _, rfl, hh3, fun H3 i3 h3' => ⟨rfl, ?_⟩⟩
  have i03 : Imm H1 H3 := i2.trans ((Imm.new hdx).trans ((Imm.new hx2).trans i3))
  refine ⟨_, rfl, f, rfl, ⟨_, i03.t h3⟩, ?_⟩
  refine for_it (walk_tup (xs := fs)) (fun i σ H4 => ∃ x5 x6 x7 nm, σ = [some (.ref a), some (.ref c), some (.ref f), some (.ref hd), some (.ref x), x5, x6, x7] ∧ Imm H1 H4 ∧ Holds H4 (LkC K x dx p.cells.length D nm (((p.funs.take i).map fun f => szDs f.body).sum : Nat) (p.params.map Int.ofNat) R))
    ⟨_, _, _, 0, rfl, i03, by rw [hl2] at h3'; exact h3'⟩ (fun i σ H4 _ ⟨_, _, _, _, _, im, _⟩ => im.t h3) (fun i u σ H4 H5 hlt hP hY => ?_) fun σ H4 hP => ?_
  · obtain ⟨x5, x6, x7, nm, rfl, i4, h4'⟩ := hP
    obtain ⟨rfl, hu⟩ := hY
    obtain ⟨g, eg, ga, vb, rfl, g2, g3⟩ := h4.get hu
    obtain ⟨ba, bvs, rfl, b1, b2⟩ := g3.mono i4
    have hm := List.mem_of_getElem? eg
    have hw1 := W.bodies g hm
    have hw2 := W.deep g hm
    have hsz := W.size
    have hst := sum_take_succ eg
    have hle := sum_take_le p.funs (i + 1)
    refine ⟨ga, _, rfl, i4.t g2, rfl, _, _, rfl, _, _, rfl, _, _, rfl, rfl, ?_⟩
    refine ⟨_, rfl, _, rfl, x, dx, _, _, _, _, rfl, h4'.head, ?_⟩
    have h5' := h4'.upd (o' := lkO K dx p.cells.length D (g.names : Nat) (((p.funs.take i).map fun f => szDs f.body).sum : Nat))
    have i5 := h4'.imm (o' := lkO K dx p.cells.length D (g.names : Nat) (((p.funs.take i).map fun f => szDs f.body).sum : Nat)) rfl
    refine ⟨_, rfl, x, dx, _, rfl, h5'.head, nmLooker_body, _, rfl, ?_⟩
    refine ⟨x, dx, D, _, g.names, _, 1, p.params, g.body, ba, bvs, R, rfl, Nat.lt_succ_of_le hw2, h5', i5.t b1, b2.mono i5, hw1, by omega, by omega, by omega, fun H6 i6 h6 => ?_⟩
    refine ⟨_, _, _, (g.names : Int), rfl, i4.trans (i5.trans i6), ?_⟩
    rw [hst]
    have : (((p.funs.take i).map fun f => szDs f.body).sum : Int) + (szDs g.body : Int) = ((((p.funs.take i).map fun f => szDs f.body).sum + szDs g.body : Nat) : Int) := by omega
    rw [← this]
    exact h6
  · obtain ⟨x5, x6, x7, nm, rfl, i4, h4'⟩ := hP
    exact q H4 (i1.trans i4) h4'.tail.tail
/-! ### is_wish -/
def sp_is_wish (K : PySem.W.Frag) (w : World) : Sp := fun vs H Q _ => ∃ (p : Prog) (vp vw : V) (fn : Nat) (g : Fn) (y : Pt) (R : List (Addr × HO)), vs = [vw, vp, .int (fn : Nat)] ∧ ProgAt K H p vp ∧ p.funs[fn]? = some g ∧ PtAt K H y vw ∧
  y.wf g.names p.cells.length = true ∧ y.dp ≤ 8 ∧ y.sz ≤ 100 ∧ Holds H R ∧ ∀ H', Imm H H' → Holds H' R → Q (.bl true) H'
abbrev n_f_is_wish : List Str := ["part", "program", "fun", "looker"]
def t_f_is_wish (K : PySem.W.Frag) (w : World)  : TS :=
 (tSeq (tAsg (tMake (He.ga K "Looker") (sp_Looker_init K w) [] E0 (tCons (tCB (rLenS' K) (tCons (tOp (rIxT K) (tVar 1) (tC (.int 0))) tNil)) (tCons (tLst tNil) tNil))) (gName 3))
 (tSeq (xsLooker_names K (tVar 3) (tOp (rIxT K) (tOp (rIxT K) (tOp (rIxT K) (tVar 1) (tC (.int 1))) (tVar 2)) (tC (.int 1))))
 (tSeq (tDrop (tMeth (He.ga K "Looker") "part" (sp_Looker_part 8 K w) [] E0 (tVar 3) (tCons (tVar 0) (tCons (tC (.int 1)) tNil))))
 (tRet (tC (.bl true))))))
theorem pu_f_is_wish {K : PySem.W.Frag} {w : World} (vs : List V) (H : Hp) (Q : VK) (E : XK) (h : sp_is_wish K w vs H Q E) : t_f_is_wish K w { nx := fun _ H' => Q .non H', rt := Q } (start n_f_is_wish vs) H := by
  obtain ⟨p, vp, vw, fn, g, y, R, rfl, hp, eg, hy, hw, hd, hs, hH, q⟩ := h
  obtain ⟨a, c, f, hd', fs, rfl, h1, h2, h3, h4, h5⟩ := hp
  have hl2 : (p.cells.map V.int).length = p.cells.length := List.length_map _
  refine ⟨_, rfl, a, _, 0, _, rfl, rfl, h1, rfl, c, _, rfl, .inr h2, Nat.zero_le _, fun D hD => ?_⟩
  intro x dx hx hdx hne
  have hh := hH.new (o := .lst []) hD
  have hx2 : upd (upd H D (.lst [])) dx (.own x) x = none := by rw [upd_ne hne.symm]; exact hx
  have hh3 := (hh.skip (o := .own x) hdx).new (o := .ins (He.ga K "Looker") dx []) hx2
  have i0 : Imm H (upd (upd (upd H D (.lst [])) dx (.own x)) x (.ins (He.ga K "Looker") dx [])) := (Imm.new hD).trans ((Imm.new hdx).trans (Imm.new hx2))
  refine ⟨x, dx, D, _, _, rfl, hh3, fun H3 i3 h3' => ⟨rfl, ?_⟩⟩
  have i4 := i0.trans i3
  have hlt : fn < fs.length := by rw [h4.len]; exact (List.getElem?_eq_some_iff.mp eg).1
  obtain ⟨g', eg', ga, vb, e3, g2, _⟩ := h4.get (List.getElem?_eq_getElem hlt)
  have : g' = g := by rw [eg] at eg'; exact (Option.some.inj eg').symm
  subst this
  refine ⟨_, rfl, a, _, 1, _, rfl, rfl, i4.t h1, rfl, _, rfl, f, _, _, _, rfl, rfl, i4.t h3, atI_nat (List.getElem?_eq_getElem hlt), ga, _, 1, _, e3, rfl, i4.t g2, rfl, _, rfl, x, dx, _, _, _, _, rfl, h3'.head, ?_⟩
  have h5' := h3'.upd (o' := lkO K dx (p.cells.map V.int).length D (g'.names : Nat) 0)
  have i5 := h3'.imm (o' := lkO K dx (p.cells.map V.int).length D (g'.names : Nat) 0) rfl
  rw [hl2] at h5' i5
  rw [hl2]
  refine ⟨_, rfl, x, dx, _, rfl, h5'.head, nmLooker_part, _, rfl, ?_⟩
  refine ⟨x, dx, D, p.cells.length, g'.names, 0, 1, [], y, vw, R, rfl, hd, h5', hy.mono (i4.trans i5), hw, by omega, by omega, by omega, fun H6 i6 h6 => ?_⟩
  exact q H6 (i4.trans (i5.trans i6)) h6.tail.tail
end SD
set_option Elab.async false
set_option linter.all false
set_option maxRecDepth 100000
set_option maxHeartbeats 4000000
namespace SD
open PySem PySem.Spec PyProof.Rows L2
/-! ### the laws' dice -/
def Sm31 (m : Int) : Prop := 0 ≤ m ∧ m < 2147483647
abbrev diC (a : Addr) (i m l : Int) : HO := .lst [.ref a, .int i, .int m, .int l]
theorem cmul_sm {m k : Int} (h : Sm31 m) : CMul m k := .inl ⟨by have := h.1; omega, by have := h.2; omega⟩
theorem sm31_mod (x : Int) : Sm31 (x % 2147483647) := ⟨by omega, by omega⟩
def sp_law_dice (K : PySem.W.Frag) (w : World) : Sp := fun vs H Q _ => ∃ (a : Addr) (xs : List Int), vs = [.ref a] ∧ SqL K H a (xs.map V.int) ∧
  ∀ d m, Sm31 m → H d = none → Q (.ref d) (upd H d (diC a 0 m 0))
abbrev n_f_law_dice : List Str := ["_law_script", "_law_mixed", "_law_cell"]
def t_f_law_dice (K : PySem.W.Frag) (w : World)  : TS :=
 (tSeq (tAsg (tC (.int 0)) (gName 1))
 (tSeq (tFor (iList K (tVar 0)) (gName 2) (tAsg (tOp (rI (fun _ j => 0 < j) fun i j => .int (i % j)) (tOp (rI0 fun i j => .int (i + j)) (tOp (rI0 fun i j => .int (i + j)) (tOp (rI CMul fun i j => .int (i * j)) (tVar 1) (tC (.int 48271))) (tOp (rI CMul fun i j => .int (i * j)) (tOp (rI (fun _ j => 0 < j) fun i j => .int (i % j)) (tVar 2) (tC (.int 2147483647))) (tC (.int 69621)))) (tC (.int 11))) (tC (.int 2147483647))) (gName 1)))
 (tRet (tLst (tCons (tVar 0) (tCons (tC (.int 0)) (tCons (tOp (rI CMul fun i j => .int (i * j)) (tVar 1) (tCB rInt1 (tCons (tOp (rI0 fun i j => .bl (decide (j < i))) (tCB (rLenS' K) (tCons (tVar 0) tNil)) (tC (.int 2))) tNil))) (tCons (tC (.int 0)) tNil))))))))
theorem st_f_law_dice {x0 : V} : start n_f_law_dice [x0] = [some x0, none, none] := rfl
theorem pu_f_law_dice {K : PySem.W.Frag} {w : World} (vs : List V) (H : Hp) (Q : VK) (E : XK) (h : sp_law_dice K w vs H Q E) : t_f_law_dice K w { nx := fun _ H' => Q .non H', rt := Q } (start n_f_law_dice vs) H := by
  obtain ⟨a, xs, rfl, hs, q⟩ := h
  refine ⟨_, rfl, a, rfl, ⟨_, hs⟩, ?_⟩
  refine for_it (walk_list (xs := xs.map V.int)) (fun i σ H2 => ∃ m x2, σ = [some (.ref a), some (.int m), x2] ∧ H2 = H ∧ Sm31 m)
    ⟨0, _, rfl, rfl, ⟨by omega, by omega⟩⟩ (fun i σ H2 _ ⟨_, _, _, e, _⟩ => by rw [e]; exact hs) (fun i u σ H2 H3 hlt hP hY => ?_) fun σ H2 hP => ?_
  · obtain ⟨m, x2, rfl, rfl, hm⟩ := hP
    obtain ⟨rfl, hu⟩ := hY
    rw [List.getElem?_map] at hu
    cases ec : xs[i]? with
    | none => rw [ec] at hu; cases hu
    | some c =>
      rw [ec] at hu
      have hu : u = .int c := (Option.some.inj hu).symm
      subst hu
      refine ⟨_, rfl, _, _, rfl, rfl, cmul_sm hm, _, rfl, _, _, rfl, rfl, (by show (0 : Int) < 2147483647; decide), _, _, rfl, rfl, cmul_sm (sm31_mod c), _, _, rfl, rfl, _, _, rfl, rfl, _, _, rfl, rfl, (by show (0 : Int) < 2147483647; decide), ?_⟩
      exact ⟨_, _, rfl, rfl, sm31_mod _⟩
  · obtain ⟨m, x2, rfl, rfl, hm⟩ := hP
    refine ⟨_, rfl, _, rfl, _, rfl, _, _, rfl, .inl hs, _, _, rfl, rfl, .inr ⟨_, rfl, _, _, rfl, rfl, cmul_sm hm, (by show 4 ≤ sizeLine; decide), fun d hd => ?_⟩⟩
    refine q d _ ?_ hd
    split
    · show Sm31 (m * 1); rw [Int.mul_one]; exact hm
    · show Sm31 (m * 0); rw [Int.mul_zero]; exact ⟨by omega, by omega⟩
def sp_law_next (K : PySem.W.Frag) (w : World) : Sp := fun vs H Q _ => ∃ (d a : Addr) (xs : List Int) (i m l many : Int) (R : List (Addr × HO)), vs = [.ref d, .int many] ∧ 0 < many ∧ many < 1073741824 ∧ Holds H ((d, diC a i m l) :: R) ∧ SqF K H a (xs.map V.int) ∧ 0 ≤ i ∧ Sm31 m ∧
  ∀ H' r i' m' l', 0 ≤ r → r < many → Imm H H' → Holds H' ((d, diC a i' m' l') :: R) → 0 ≤ i' → Sm31 m' → Q (.int r) H'
abbrev n_f_law_next : List Str := ["_law_dice_here", "_law_many", "_law_found", "_law_cell"]
def t_f_law_next (K : PySem.W.Frag) (w : World)  : TS :=
 (tSeq (tIfS (tTest (tOp (rI0 fun i j => .bl (decide (j < i))) (tOp (rIxL K) (tVar 0) (tC (.int 3))) (tC (.int 0)))) (tSeq (tAsg (tOp (rI (fun _ j => 0 < j) fun i j => .int (i % j)) (tOp (rIxL K) (tVar 0) (tC (.int 3))) (tVar 1)) (gName 2))
 (tSeq (tAsg (tOp (rI CDiv fun i j => .int (i / j)) (tOp (rIxL K) (tVar 0) (tC (.int 3))) (tVar 1)) (gSub (tVar 0) (tC (.int 3)) rSetL))
 (tRet (tVar 2)))) tNext)
 (tSeq (tAsg (tOp (rI0 fun i j => .int (i + j)) (tOp (rIxL K) (tVar 0) (tC (.int 1))) (tC (.int 1))) (gSub (tVar 0) (tC (.int 1)) rSetL))
 (tSeq (tIfS (tTest (tOp (rI0 fun i j => .bl (decide (i ≤ j))) (tOp (rIxL K) (tVar 0) (tC (.int 1))) (tCB (rLenS' K) (tCons (tOp (rIxL K) (tVar 0) (tC (.int 0))) tNil)))) (tSeq (tAsg (tOp (rIxL K) (tOp (rIxL K) (tVar 0) (tC (.int 0))) (tOp (rI0 fun i j => .int (i - j)) (tOp (rIxL K) (tVar 0) (tC (.int 1))) (tC (.int 1)))) (gName 3))
 (tSeq (tAsg (tIf (tTest (tOp (rI0 fun i j => .bl (decide (j ≤ i))) (tVar 3) (tOp (rI CPow fun i j => .int (i ^ j.toNat)) (tC (.int 10)) (tC (.int 18))))) (tOp (rI CDiv fun i j => .int (i / j)) (tVar 3) (tVar 1)) (tC (.int 0))) (gSub (tVar 0) (tC (.int 3)) rSetL))
 (tRet (tOp (rI (fun _ j => 0 < j) fun i j => .int (i % j)) (tVar 3) (tVar 1))))) tNext)
 (tSeq (tAsg (tOp (rI (fun _ j => 0 < j) fun i j => .int (i % j)) (tOp (rI CMul fun i j => .int (i * j)) (tOp (rIxL K) (tVar 0) (tC (.int 2))) (tC (.int 48271))) (tC (.int 2147483647))) (gSub (tVar 0) (tC (.int 2)) rSetL))
 (tRet (tOp (rI (fun _ j => 0 < j) fun i j => .int (i % j)) (tOp (rI CDiv fun i j => .int (i / j)) (tOp (rIxL K) (tVar 0) (tC (.int 2))) (tC (.int 7))) (tVar 1)))))))
theorem st_f_law_next {x0 x1 : V} : start n_f_law_next [x0, x1] = [some x0, some x1, none, none] := rfl
theorem pu_f_law_next {K : PySem.W.Frag} {w : World} (vs : List V) (H : Hp) (Q : VK) (E : XK) (h : sp_law_next K w vs H Q E) : t_f_law_next K w { nx := fun _ H' => Q .non H', rt := Q } (start n_f_law_next vs) H := by
  obtain ⟨d, a, xs, i, m, l, many, R, rfl, hm0, hm1, hH, ha, hi, hm, q⟩ := h
  have sd : ∀ {H1 : Hp} {i m l : Int}, Holds H1 ((d, diC a i m l) :: R) → SqL K H1 d [.ref a, .int i, .int m, .int l] := fun h => SqL.of h.head
  refine ⟨_, rfl, d, _, 3, _, rfl, rfl, sd hH, rfl, _, _, rfl, rfl, _, rfl, ?_⟩
  by_cases hl : 0 < l
  · refine iteDT hl ?_
    refine ⟨_, rfl, d, _, 3, _, rfl, rfl, sd hH, rfl, _, rfl, _, _, rfl, rfl, hm0, ?_⟩
    refine ⟨_, rfl, d, _, 3, _, rfl, rfl, sd hH, rfl, _, rfl, _, _, rfl, rfl, ⟨hm0, hm1⟩, _, rfl, d, _, 3, 3, rfl, rfl, hH.head, rfl, ?_⟩
    have h1 := hH.upd (o' := diC a i m (l / many))
    exact ⟨_, rfl, q _ _ i m (l / many) (Int.emod_nonneg _ (by omega)) (Int.emod_lt_of_pos _ hm0) (hH.imm rfl) h1 hi hm⟩
  · refine iteDF hl ?_
    refine ⟨_, rfl, d, _, 1, _, rfl, rfl, sd hH, rfl, _, _, rfl, rfl, _, rfl, d, _, 1, 1, rfl, rfl, hH.head, rfl, ?_⟩
    have h1 := hH.upd (o' := diC a (i + 1) m l)
    have i1 := hH.imm (o' := diC a (i + 1) m l) rfl
    have h1 : Holds (upd H d (.lst ([V.ref a, .int i, .int m, .int l].set 1 (.int (i + 1))))) ((d, diC a (i + 1) m l) :: R) := h1
    have i1 : Imm H (upd H d (.lst ([V.ref a, .int i, .int m, .int l].set 1 (.int (i + 1))))) := i1
    generalize upd H d (.lst ([V.ref a, .int i, .int m, .int l].set 1 (.int (i + 1)))) = H1 at h1 i1
    have ha1 := i1.f ha
    refine ⟨_, rfl, d, _, 1, _, rfl, rfl, sd h1, rfl, _, rfl, d, _, 0, _, rfl, rfl, sd h1, rfl, a, _, rfl, .inl ha1.l, _, _, rfl, rfl, _, rfl, ?_⟩
    by_cases hc : i + 1 ≤ xs.length
    · refine iteDT (by rw [List.length_map]; exact hc) ?_
      obtain ⟨c, ec⟩ : ∃ c, xs[i.toNat]? = some c := ⟨_, List.getElem?_eq_getElem (by omega)⟩
      have hat : atI (xs.map V.int) (i + 1 - 1) = some (.int c) := by
        have := atI_nat (xs := xs.map V.int) (j := i.toNat) (v := .int c) (by rw [List.getElem?_map, ec]; rfl)
        rwa [show ((i.toNat : Nat) : Int) = i + 1 - 1 by omega] at this
      refine ⟨_, rfl, d, _, 0, _, rfl, rfl, sd h1, rfl, _, rfl, d, _, 1, _, rfl, rfl, sd h1, rfl, _, _, rfl, rfl, a, _, _, _, rfl, rfl, ha1.l, hat, ?_⟩
      refine ⟨_, rfl, _, _, rfl, rfl, ⟨by decide, by decide, by decide⟩, _, _, rfl, rfl, _, rfl, ?_⟩
      have fin : ∀ y : Int, (fun y H2 => tAsg (fun _ H Q => Q y H) (gSub (tVar 0) (tC (.int 3)) rSetL) { nx := fun σ1 H1 => tRet (tOp (rI (fun _ j => 0 < j) fun i j => .int (i % j)) (tVar 3) (tVar 1)) { nx := (fun _ H' => Q .non H' : L2.St → Hp → Prop), rt := Q } σ1 H1, rt := Q } [some (.ref d), some (.int many), none, some (.int c)] H2) (.int y) H1 := by
        intro y
        refine ⟨_, rfl, d, _, 3, 3, rfl, rfl, h1.head, rfl, ?_⟩
        have h2 := h1.upd (o' := diC a (i + 1) m y)
        exact ⟨_, rfl, _, rfl, _, _, rfl, rfl, hm0, q _ _ (i + 1) m y (Int.emod_nonneg _ (by omega)) (Int.emod_lt_of_pos _ hm0) (i1.trans (h1.imm rfl)) h2 (by omega) hm⟩
      refine ite2 (fun _ => ?_) fun _ => ?_
      · exact ⟨_, rfl, _, rfl, _, _, rfl, rfl, ⟨hm0, hm1⟩, fin _⟩
      · exact fin 0
    · refine iteDF (by rw [List.length_map]; exact hc) ?_
      refine ⟨_, rfl, d, _, 2, _, rfl, rfl, sd h1, rfl, _, _, rfl, rfl, cmul_sm hm, _, _, rfl, rfl, (by show (0 : Int) < 2147483647; decide), _, rfl, d, _, 2, 2, rfl, rfl, h1.head, rfl, ?_⟩
      have h2 : Holds _ ((d, diC a (i + 1) (m * 48271 % 2147483647) l) :: R) := h1.upd (o' := diC a (i + 1) (m * 48271 % 2147483647) l)
      exact ⟨_, rfl, d, _, 2, _, rfl, rfl, sd h2, rfl, _, _, rfl, rfl, ⟨by decide, by decide⟩, _, rfl, _, _, rfl, rfl, hm0, q _ _ (i + 1) _ l (Int.emod_nonneg _ (by omega)) (Int.emod_lt_of_pos _ hm0) (i1.trans (h1.imm rfl)) h2 (by omega) (sm31_mod _)⟩
theorem take_snoc {α : Type} {xs : List α} {i : Nat} {x : α} (e : xs[i]? = some x) : xs.take (i + 1) = xs.take i ++ [x] := by rw [List.take_add_one, e]; rfl
end SD
set_option Elab.async false
set_option linter.all false
set_option maxRecDepth 100000
set_option maxHeartbeats 4000000
namespace SD
open PySem PySem.Spec PyProof.Rows L2
/-! ### parts of the heap that are held, each by itself -/
structure As where
  p : List (Addr × HO) → Hp → Prop
  mono : ∀ {c H H'}, Imm H H' → p c H → p c H'
def SepL (H : Hp) : List As → List (Addr × HO) → Prop
  | [], c => c = []
  | A :: r, c => ∃ c1 c2, c = c1 ++ c2 ∧ A.p c1 H ∧ SepL H r c2
def Sep (H : Hp) (L : List As) : Prop := ∃ c, Holds H c ∧ SepL H L c
section
variable {K : PySem.W.Frag} {H H' : Hp} {L L' : List As} {A : As} {c R : List (Addr × HO)}
theorem SepL.mono (i : Imm H H') : ∀ {L : List As} {c : List (Addr × HO)}, SepL H L c → SepL H' L c
  | [], c, h => h
  | A :: r, c, ⟨c1, c2, e, h1, h2⟩ => ⟨c1, c2, e, A.mono i h1, SepL.mono i h2⟩
theorem SepL.perm (p : L.Perm L') : ∀ {c}, SepL H L c → ∃ c', c.Perm c' ∧ SepL H L' c' := by
  induction p with
  | nil => exact fun h => ⟨_, .refl _, h⟩
  | cons A p ih =>
    rintro c ⟨c1, c2, rfl, h1, h2⟩
    obtain ⟨c', q, h3⟩ := ih h2
    exact ⟨c1 ++ c', q.append_left _, c1, c', rfl, h1, h3⟩
  | swap A B l =>
    rintro c ⟨c1, c2, rfl, h1, c3, c4, rfl, h2, h3⟩
    refine ⟨c3 ++ (c1 ++ c4), ?_, c3, _, rfl, h2, c1, c4, rfl, h1, h3⟩
    rw [← List.append_assoc, ← List.append_assoc]
    exact List.perm_append_comm.append_right _
  | trans _ _ i1 i2 =>
    intro c h
    obtain ⟨c', q, h'⟩ := i1 h
    obtain ⟨c'', q', h''⟩ := i2 h'
    exact ⟨c'', q.trans q', h''⟩
theorem Sep.perm (h : Sep H L) (p : L.Perm L') : Sep H L' := by
  obtain ⟨c, h1, h2⟩ := h
  obtain ⟨c', q, h3⟩ := SepL.perm p h2
  exact ⟨c', h1.perm q, h3⟩
theorem Sep.pull (h : Sep H L) (i : Nat) (e : L[i]? = some A) : Sep H (A :: L.eraseIdx i) := by
  refine h.perm ?_
  obtain ⟨hi, e⟩ := List.getElem?_eq_some_iff.mp e
  rw [← e]
  exact (pull_perm hi).symm
theorem Sep.swap {B : As} (h : Sep H (A :: B :: L)) : Sep H (B :: A :: L) := h.perm (List.Perm.swap ..)
theorem Sep.open (h : Sep H (A :: L)) : ∃ c R, A.p c H ∧ Holds H (c ++ R) ∧ SepL H L R := by
  obtain ⟨c, h1, c1, c2, rfl, h2, h3⟩ := h
  exact ⟨c1, c2, h2, h1, h3⟩
theorem Sep.close (ha : A.p c H) (h : Holds H (c ++ R)) (hL : SepL H L R) : Sep H (A :: L) := ⟨_, h, c, R, rfl, ha, hL⟩
theorem Sep.tail (h : Sep H (A :: L)) : Sep H L := by
  obtain ⟨c, R, _, h2, h3⟩ := h.open
  exact ⟨R, h2.right, h3⟩
theorem SepL.take : ∀ {L : List As} {c : List (Addr × HO)} (n : Nat), SepL H L c → ∃ c1 c2, c = c1 ++ c2 ∧ SepL H (L.take n) c1
  | L, c, 0, h => ⟨[], c, rfl, rfl⟩
  | [], c, n + 1, h => ⟨[], c, rfl, rfl⟩
  | A :: r, c, n + 1, ⟨c1, c2, e, h1, h2⟩ => by
    obtain ⟨d1, d2, e2, h3⟩ := SepL.take n h2
    exact ⟨c1 ++ d1, d2, by rw [e, e2, List.append_assoc], c1, d1, rfl, h1, h3⟩
theorem Sep.take (h : Sep H L) (n : Nat) : Sep H (L.take n) := by
  obtain ⟨c, h1, h2⟩ := h
  obtain ⟨c1, c2, rfl, h3⟩ := h2.take n
  exact ⟨c1, h1.left, h3⟩
theorem Sep.nil : Sep H [] := ⟨[], Holds.nil, rfl⟩
theorem Sep.same (h : Sep H L) (s : Same H H') : Sep H' L := by
  obtain ⟨c, h1, h2⟩ := h
  exact ⟨c, h1.same s, h2.mono (Imm.same s)⟩
theorem Sep.skip (h : Sep H L) {p : Addr} {o : HO} (n : H p = none) : Sep (upd H p o) L := h.same (same_new n o)
/-- one cell -/
def cellA (a : Addr) (o : HO) : As := ⟨fun c _ => c = [(a, o)], fun _ h => h⟩
theorem Sep.cell {a : Addr} {o : HO} (h : Sep H (cellA a o :: L)) : H a = some o := by
  obtain ⟨c, R, rfl, h2, _⟩ := h.open
  exact h2.head
theorem Sep.new (h : Sep H L) {p : Addr} {o : HO} (n : H p = none) : Sep (upd H p o) (cellA p o :: L) := by
  obtain ⟨c, h1, h2⟩ := h
  exact ⟨(p, o) :: c, h1.new n, [(p, o)], c, rfl, rfl, h2.mono (Imm.new n)⟩
theorem Sep.set {a : Addr} {o o' : HO} (h : Sep H (cellA a o :: L)) (m : isMut o = true) : Sep (upd H a o') (cellA a o' :: L) := by
  obtain ⟨c, R, rfl, h2, h3⟩ := h.open
  exact ⟨_, Holds.upd h2, [(a, o')], R, rfl, rfl, h3.mono (Imm.upd h2.head m)⟩
theorem Sep.imm {a : Addr} {o o' : HO} (h : Sep H (cellA a o :: L)) (m : isMut o = true) : Imm H (upd H a o') := Imm.upd h.cell m
/-- tuples, lists -/
theorem tup_use {xs : List V} {Q : VK} (h : Sep H L) (n : xs.length ≤ 1000) (q : ∀ p H', Imm H H' → Sep H' L → SqT K H' p xs → Q (.ref p) H') : xs.length ≤ sizeLine ∧ ∀ p, H p = none → Q (.ref p) (upd H p (.tup xs)) :=
  ⟨Nat.le_trans n (by decide), fun p hp => q p _ (Imm.new hp) (h.skip hp) (.inl (.inl upd_same))⟩
theorem lst_use {xs : List V} {Q : VK} (h : Sep H L) (n : xs.length ≤ 1000) (q : ∀ p H', Imm H H' → Sep H' (cellA p (.lst xs) :: L) → Q (.ref p) H') : xs.length ≤ sizeLine ∧ ∀ p, H p = none → Q (.ref p) (upd H p (.lst xs)) :=
  ⟨Nat.le_trans n (by decide), fun p hp => q p _ (Imm.new hp) (h.new hp)⟩
end
/-! ### the dice -/
def diceA (K : PySem.W.Frag) (a d : Addr) (ns : List Int) : As :=
  ⟨fun c H => ∃ i m l, c = [(d, diC a i m l)] ∧ SqF K H a (ns.map V.int) ∧ 0 ≤ i ∧ Sm31 m, fun im ⟨i, m, l, e, h, h1, h2⟩ => ⟨i, m, l, e, im.f h, h1, h2⟩⟩
section
variable {K : PySem.W.Frag} {w : World} {H : Hp} {L : List As} {Q : VK} {E : XK} {a d x : Addr} {ns : List Int}
theorem use_dice (h : Sep H L) (hs : SqF K H a (ns.map V.int)) (q : ∀ d H', Imm H H' → Sep H' (diceA K a d ns :: L) → Q (.ref d) H') : sp_law_dice K w [.ref a] H Q E := by
  refine ⟨a, ns, rfl, hs.l, fun d m hm hd => ?_⟩
  obtain ⟨c, R, e, h2, h3⟩ := (h.new (o := diC a 0 m 0) hd).open
  cases e
  exact q d _ (Imm.new hd) (Sep.close ⟨0, m, 0, rfl, (Imm.new hd).f hs, Int.le_refl _, hm⟩ h2 h3)
theorem use_next {many : Int} (h : Sep H (diceA K a d ns :: L)) (h0 : 0 < many) (h1 : many < 1073741824) (q : ∀ (r : Nat) H', (r : Int) < many → Imm H H' → Sep H' (diceA K a d ns :: L) → Q (.int (r : Nat)) H') :
    sp_law_next K w [.ref d, .int many] H Q E := by
  obtain ⟨c, R, ⟨i, m, l, rfl, hs, hi, hm⟩, h2, h3⟩ := h.open
  refine ⟨d, a, ns, i, m, l, many, R, rfl, h0, h1, h2, hs, hi, hm, fun H' r i' m' l' r0 r1 im h4 hi' hm' => ?_⟩
  obtain ⟨r, rfl⟩ := Int.eq_ofNat_of_zero_le r0
  exact q r H' r1 im (Sep.close ⟨i', m', l', rfl, im.f hs, hi', hm'⟩ h4 (h3.mono im))
end
/-! ### tellings as data -/
def intsD (xs : List Int) : List PyData := xs.map PyData.int
theorem ints_dp {K : PySem.W.Frag} {H : Hp} : ∀ xs : List Int, DpAll K H (xs.map V.int) (intsD xs)
  | [] => .nil
  | x :: r => .cons (.int x) (ints_dp r)
theorem ints_lay : ∀ xs : List Int, PyData.canLayAll0 (intsD xs) = true
  | [] => rfl
  | x :: r => by show (true && PyData.canLayAll0 (intsD r)) = true; rw [ints_lay r]; rfl
theorem eqv_refl' {d : PyData} (h : SeqAt.shaped d = true) : PyData.eqv d d = true := SeqAt.eqv_refl d (Bool.and_eq_true_iff.mp h).1
theorem ne_same {K : PySem.W.Frag} {H : Hp} {x y : V} {d : PyData} {Q : VK} (hx : Dp K H x d) (hy : Dp K H y d) (hs : SeqAt.shaped d = true) (q : Q (.bl false) H) : rNeD K x y H Q :=
  ⟨d, d, hx, hy, hs, hs, by rw [eqv_refl' hs]; exact q⟩
theorem eq_same {K : PySem.W.Frag} {H : Hp} {x y : V} {d : PyData} {Q : VK} (hx : Dp K H x d) (hy : Dp K H y d) (hs : SeqAt.shaped d = true) (q : Q (.bl true) H) : rEqD K x y H Q :=
  ⟨d, d, hx, hy, hs, hs, by rw [eqv_refl' hs]; exact q⟩
theorem only_sqF {K : PySem.W.Frag} {H : Hp} {a : Addr} {xs : List V} (o : Only H) (h : SqL K H a xs) : SqF K H a xs := by
  rcases h with (h | h) | h
  · rcases o a with q | ⟨_, _, q⟩
    · rw [h] at q; cases q
    · rw [h] at q; cases q
  · exact .inl h
  · exact .inr h

theorem lay_all : ∀ {ds : List PyData}, (∀ d ∈ ds, d.canLay0 = true) → PyData.canLayAll0 ds = true
  | [], _ => rfl
  | x :: r, h => by
    show (x.canLay0 && PyData.canLayAll0 r) = true
    rw [h x (List.mem_cons_self ..), lay_all (ds := r) fun d hd => h d (List.mem_cons_of_mem _ hd)]; rfl
theorem depth_all {n : Nat} : ∀ {ds : List PyData}, (∀ d ∈ ds, d.depth ≤ n) → PyData.depthAll ds ≤ n
  | [], _ => Nat.zero_le _
  | x :: r, h => by
    show max x.depth (PyData.depthAll r) ≤ n
    exact Nat.max_le.mpr ⟨h x (List.mem_cons_self ..), depth_all (ds := r) fun d hd => h d (List.mem_cons_of_mem _ hd)⟩
/-- laid, and no deeper than n -/
def Flat (n : Nat) (d : PyData) : Prop := d.canLay0 = true ∧ d.depth ≤ n
theorem Flat.list {n : Nat} {ds : List PyData} (h : ∀ d ∈ ds, Flat n d) : Flat (n + 1) (.list ds) := ⟨lay_all fun d hd => (h d hd).1, Nat.succ_le_succ (depth_all fun d hd => (h d hd).2)⟩
theorem Flat.tuple {n : Nat} {ds : List PyData} (h : ∀ d ∈ ds, Flat n d) : Flat (n + 1) (.tuple ds) := ⟨lay_all fun d hd => (h d hd).1, Nat.succ_le_succ (depth_all fun d hd => (h d hd).2)⟩
theorem Flat.mono {n m : Nat} {d : PyData} (h : Flat n d) (e : n ≤ m) : Flat m d := ⟨h.1, Nat.le_trans h.2 e⟩
theorem Flat.shaped {n : Nat} {d : PyData} (h : Flat n d) (e : n ≤ 64 := by decide) : SeqAt.shaped d = true := Bool.and_eq_true_iff.mpr ⟨h.1, decide_eq_true (Nat.le_trans h.2 e)⟩
theorem Flat.int (i : Int) : Flat 0 (.int i) := ⟨rfl, Nat.le_refl _⟩
theorem Flat.non : Flat 0 .none := ⟨rfl, Nat.le_refl _⟩
theorem Flat.bool (b : Bool) : Flat 0 (.bool b) := ⟨rfl, Nat.le_refl _⟩
theorem flat_ints (xs : List Int) : Flat 1 (.list (intsD xs)) := .list fun d hd => by
  obtain ⟨i, _, rfl⟩ := List.mem_map.mp hd
  exact .int i
end SD
set_option Elab.async false
set_option linter.all false
set_option maxRecDepth 100000
set_option maxHeartbeats 4000000
namespace SD
open PySem PySem.Spec PyProof.Rows L2
theorem small {m : Nat} (h : m ≤ 1000) : m ≤ sizeLine := Nat.le_trans h (by decide)
/-! ### the readings, step by step: each rule takes one word off -/
section
variable {K : PySem.W.Frag} {w : World} {H : Hp} {σ σ' : L2.St} {Q : VK} {QB : Bool → Hp → Prop} {D : Ends} {QL : List V → Hp → Prop}
theorem w_seq {t u : TS} (h : t { D with nx := u D } σ H) : tSeq t u D σ H := h
theorem w_next (h : D.nx σ H) : tNext D σ H := h
theorem w_break (h : D.bk σ H) : tBreak D σ H := h
theorem w_cont (h : D.ct σ H) : tCont D σ H := h
theorem w_asg {te : TE} {g : TG} (h : te σ H fun x H1 => g x σ H1 D.nx) : tAsg te g D σ H := h
theorem w_drop {te : TE} (h : te σ H fun _ H1 => D.nx σ H1) : tDrop te D σ H := h
theorem w_ret {te : TE} (h : te σ H D.rt) : tRet te D σ H := h
theorem w_retN (h : D.rt .non H) : tRetN D σ H := h
theorem w_ifs {c : TT} {t u : TS} (h : c σ H fun b H1 => if b = true then t D σ H1 else u D σ H1) : tIfS c t u D σ H := h
def KPar (i j : Nat) (D : Ends) (σ : L2.St) (vs : List V) (H1 : Hp) : Prop := ∃ v w, vs = [v, w] ∧ D.nx ((σ.set i (some v)).set j (some w)) H1
theorem w_par {i j : Nat} {ta : TA} (h : ta σ H (KPar i j D σ)) : tPar i j ta D σ H := h
theorem w_par2 {i j : Nat} {x y : V} (e : (σ.set i (some x)).set j (some y) = σ') (h : D.nx σ' H) : KPar i j D σ [x, y] H := ⟨x, y, rfl, by rw [e]; exact h⟩
theorem w_nT {A B : Prop} (h : B) : if (!true) = true then A else B := h
theorem w_nF {A B : Prop} (h : A) : if (!false) = true then A else B := h
-- values
theorem w_var {i : Nat} {v : V} (e : σ[i]? = some (some v)) (h : Q v H) : tVar i σ H Q := ⟨v, e, h⟩
theorem w_c {v : V} (h : Q v H) : tC v σ H Q := h
theorem w_nil (h : QL [] H) : tNil σ H QL := h
theorem w_cons {ta : TE} {tr : TA} (h : ta σ H fun x H1 => tr σ H1 fun xs H2 => QL (x :: xs) H2) : tCons ta tr σ H QL := h
theorem w_op {r : R2} {ta tb : TE} (h : ta σ H fun x H1 => tb σ H1 fun y H2 => r x y H2 Q) : tOp r ta tb σ H Q := h
theorem w_un {r : V → Hp → VK → Prop} {ta : TE} (h : ta σ H fun x H1 => r x H1 Q) : tUn r ta σ H Q := h
theorem w_rI0 {g : Int → Int → V} {i j : Int} (h : Q (g i j) H) : rI0 g (.int i) (.int j) H Q := ⟨i, j, rfl, rfl, h⟩
theorem w_rI {C : Int → Int → Prop} {g : Int → Int → V} {i j : Int} (c : C i j) (h : Q (g i j) H) : rI C g (.int i) (.int j) H Q := ⟨i, j, rfl, rfl, c, h⟩
theorem w_mod {g : Int → Int → V} {i j : Int} (c : 0 < j) (h : Q (g i j) H) : rI (fun _ j => 0 < j) g (.int i) (.int j) H Q := ⟨i, j, rfl, rfl, c, h⟩
theorem w_mul {g : Int → Int → V} {i j : Int} (c : -(2 ^ 64) < i ∧ i < 2 ^ 64 ∨ -(2 ^ 64) < j ∧ j < 2 ^ 64) (h : Q (g i j) H) : rI CMul g (.int i) (.int j) H Q := ⟨i, j, rfl, rfl, c, h⟩
theorem w_rU {g : Int → V} {i : Int} (h : Q (g i) H) : rU g (.int i) H Q := ⟨i, rfl, h⟩
-- tests
def KBl (QB : Bool → Hp → Prop) (x : V) (H' : Hp) : Prop := ∃ k, x = .bl k ∧ QB k H'
theorem w_test {t : TE} (h : t σ H (KBl QB)) : tTest t σ H QB := h
theorem w_b {t : TE} (h : t σ H (KBl QB)) : tB t σ H QB := h
theorem w_bl {b : Bool} (h : QB b H) : KBl QB (.bl b) H := ⟨b, rfl, h⟩
theorem w_and {t u : TT} (h : t σ H fun c H1 => if c = true then u σ H1 QB else QB false H1) : tAnd t u σ H QB := h
theorem w_or {t u : TT} (h : t σ H fun c H1 => if c = true then QB true H1 else u σ H1 QB) : tOr t u σ H QB := h
theorem w_not {t : TT} (h : t σ H fun c H1 => QB (!c) H1) : tNot t σ H QB := h
theorem w_andV {ta tb : TE} (h : ta σ H (KBl fun c H1 => if c = true then tb σ H1 Q else Q (.bl false) H1)) : tAndV ta tb σ H Q := h
theorem w_orV {ta tb : TE} (h : ta σ H (KBl fun c H1 => if c = true then Q (.bl true) H1 else tb σ H1 Q)) : tOrV ta tb σ H Q := h
theorem w_notV {ta : TE} (h : ta σ H (KBl fun c H1 => Q (.bl (!c)) H1)) : tNotV ta σ H Q := h
theorem w_if {c : TT} {ta tb : TE} (h : c σ H fun b H1 => if b = true then ta σ H1 Q else tb σ H1 Q) : tIf c ta tb σ H Q := h
theorem w_chain {r r' : R2} {ta tb tc : TE} (h : ta σ H fun x H1 => tb σ H1 fun y H2 => r x y H2 (KBl fun k H3 => if k = true then tc σ H3 fun w' H4 => r' y w' H4 Q else Q (.bl false) H3)) : tChain r r' ta tb tc σ H Q := h
theorem w_eqI {i j : Int} (h : Q (.bl (decide (i = j))) H) : rEq (.int i) (.int j) H Q := ⟨rfl, by
  have e : (V.int i = V.int j) = (i = j) := propext ⟨fun h => V.int.inj h, fun h => by rw [h]⟩
  simp only [e]; exact h⟩
theorem w_neI {i j : Int} (h : Q (.bl (!decide (i = j))) H) : rNe (.int i) (.int j) H Q := ⟨rfl, by
  have e : (V.int i = V.int j) = (i = j) := propext ⟨fun h => V.int.inj h, fun h => by rw [h]⟩
  simp only [e]; exact h⟩
theorem w_eqS {i j : Str} (h : Q (.bl (decide (i = j))) H) : rEq (.str i) (.str j) H Q := ⟨rfl, by
  have e : (V.str i = V.str j) = (i = j) := propext ⟨fun h => V.str.inj h, fun h => by rw [h]⟩
  simp only [e]; exact h⟩
theorem w_neS {i j : Str} (h : Q (.bl (!decide (i = j))) H) : rNe (.str i) (.str j) H Q := ⟨rfl, by
  have e : (V.str i = V.str j) = (i = j) := propext ⟨fun h => V.str.inj h, fun h => by rw [h]⟩
  simp only [e]; exact h⟩
theorem w_isNn (h : Q (.bl true) H) : rIsN .non .non H Q := ⟨rfl, h⟩
theorem w_isNi {i : Int} (h : Q (.bl false) H) : rIsN (.int i) .non H Q := ⟨rfl, h⟩
theorem w_isNr {a : Addr} (h : Q (.bl false) H) : rIsN (.ref a) .non H Q := ⟨rfl, h⟩
theorem w_notNn (h : Q (.bl false) H) : rNotN .non .non H Q := ⟨rfl, h⟩
theorem w_notNi {i : Int} (h : Q (.bl true) H) : rNotN (.int i) .non H Q := ⟨rfl, h⟩
theorem w_notNr {a : Addr} (h : Q (.bl true) H) : rNotN (.ref a) .non H Q := ⟨rfl, h⟩
-- calls
theorem w_call {sp : Sp} {dvs : List V} {E : XK} {t : TA} (h : t σ H fun vs H1 => sp (vs ++ dvs) H1 Q E) : tCall sp dvs E t σ H Q := h
theorem w_cb {r : List V → Hp → VK → Prop} {t : TA} (h : t σ H fun vs H1 => r vs H1 Q) : tCB r t σ H Q := h
def KMeth (C : Addr) (m : Str) (sp : Sp) (dvs : List V) (E : XK) (t : TA) (σ : L2.St) (Q : VK) (x : V) (H1 : Hp) : Prop := ∃ a dx fs, x = .ref a ∧ H1 a = some (.ins C dx fs) ∧ fs.lookup m = none ∧ t σ H1 fun vs H2 => sp (x :: (vs ++ dvs)) H2 Q E
theorem w_meth {C : Addr} {m : Str} {sp : Sp} {dvs : List V} {E : XK} {ta : TE} {t : TA} (h : ta σ H (KMeth C m sp dvs E t σ Q)) : tMeth C m sp dvs E ta t σ H Q := h
theorem k_meth {C a dx : Addr} {fs : List (Str × V)} {m : Str} {sp : Sp} {dvs : List V} {E : XK} {t : TA} (h : H a = some (.ins C dx fs)) (n : fs.lookup m = none) (q : t σ H fun vs H2 => sp (.ref a :: (vs ++ dvs)) H2 Q E) : KMeth C m sp dvs E t σ Q (.ref a) H := ⟨a, dx, fs, rfl, h, n, q⟩
def KMake (C : Addr) (sp : Sp) (dvs : List V) (E : XK) (Q : VK) (vs : List V) (H1 : Hp) : Prop := ∀ x dx, H1 x = none → H1 dx = none → dx ≠ x →
  sp (.ref x :: (vs ++ dvs)) (upd (upd H1 dx (.own x)) x (.ins C dx [])) (fun v H2 => v = .non ∧ Q (.ref x) H2) E
theorem w_make {C : Addr} {sp : Sp} {dvs : List V} {E : XK} {t : TA} (h : t σ H (KMake C sp dvs E Q)) : tMake C sp dvs E t σ H Q := h
-- tuples and lists
def KTup (Q : VK) (xs : List V) (H1 : Hp) : Prop := xs.length ≤ sizeLine ∧ ∀ p, H1 p = none → Q (.ref p) (upd H1 p (.tup xs))
def KLst (Q : VK) (xs : List V) (H1 : Hp) : Prop := xs.length ≤ sizeLine ∧ ∀ p, H1 p = none → Q (.ref p) (upd H1 p (.lst xs))
theorem w_tup {t : TA} (h : t σ H (KTup Q)) : tTup t σ H Q := h
theorem w_lst {t : TA} (h : t σ H (KLst Q)) : tLst t σ H Q := h
theorem k_tup {L : List As} {xs : List V} (h : Sep H L) (q : ∀ p H', Imm H H' → Sep H' L → SqT K H' p xs → Q (.ref p) H') (n : xs.length ≤ 1000 := by first | decide | (simp only [List.length_cons, List.length_nil]; omega)) : KTup Q xs H :=
  tup_use h n q
theorem k_lst {L : List As} {xs : List V} (h : Sep H L) (q : ∀ p H', Imm H H' → Sep H' (cellA p (.lst xs) :: L) → Q (.ref p) H') (n : xs.length ≤ 1000 := by first | decide | (simp only [List.length_cons, List.length_nil]; omega)) : KLst Q xs H :=
  lst_use h n q
theorem w_ixT {p : Addr} {xs : List V} {i : Int} {v : V} (f : SqT K H p xs) (e : atI xs i = some v) (h : Q v H) : rIxT K (.ref p) (.int i) H Q := ⟨p, xs, i, v, rfl, rfl, f, e, h⟩
theorem w_ixL {p : Addr} {xs : List V} {i : Int} {v : V} (f : SqL K H p xs) (e : atI xs i = some v) (h : Q v H) : rIxL K (.ref p) (.int i) H Q := ⟨p, xs, i, v, rfl, rfl, f, e, h⟩
theorem w_lenL {p : Addr} {xs : List V} (f : SqL K H p xs) (h : Q (.int xs.length) H) : rLenS' K [.ref p] H Q := ⟨p, xs, rfl, .inl f, h⟩
theorem w_lenT {p : Addr} {xs : List V} (f : SqT K H p xs) (h : Q (.int xs.length) H) : rLenS' K [.ref p] H Q := ⟨p, xs, rfl, .inr f, h⟩
theorem w_int1b {b : Bool} (h : Q (.int (if b then 1 else 0)) H) : rInt1 [.bl b] H Q := .inr ⟨b, rfl, h⟩
theorem w_int1 {i : Int} (h : Q (.int i) H) : rInt1 [.int i] H Q := .inl ⟨i, rfl, h⟩
theorem w_cat {L : List As} {a b : Addr} {xs ys : List V} (h : Sep H L) (f : H a = some (.lst xs)) (g : H b = some (.lst ys)) (n : xs.length + ys.length ≤ sizeLine) (q : ∀ p H', Imm H H' → Sep H' (cellA p (.lst (xs ++ ys)) :: L) → Q (.ref p) H') : rCat (.ref a) (.ref b) H Q :=
  ⟨a, b, xs, ys, rfl, rfl, f, g, n, fun p hp => q p _ (Imm.new hp) (h.new hp)⟩
theorem w_rep {L : List As} {a : Addr} {xs : List V} {k : Nat} (h : Sep H L) (f : H a = some (.lst xs)) (n : k ≤ 1000) (m : xs.length ≤ 1000) (q : ∀ p H', Imm H H' → Sep H' (cellA p (.lst (List.replicate k xs).flatten) :: L) → Q (.ref p) H') : rRep (.ref a) (.int (k : Nat)) H Q :=
  ⟨a, _, xs, rfl, rfl, f, by omega, by omega, Nat.le_trans (Nat.mul_le_mul m (by rw [Int.toNat_natCast]; exact n)) (by decide), fun p hp => q p _ (Imm.new hp) (by rw [Int.toNat_natCast]; exact h.new hp)⟩
theorem w_eqNil {L : List As} {a b : Addr} {xs : List V} (f : SqL K H a xs) (g : SqL K H b []) (h : Q (.bl xs.isEmpty) H) : rEqNil K false (.ref a) (.ref b) H Q := ⟨a, b, xs, rfl, rfl, f, g, h⟩
theorem w_neNil {L : List As} {a b : Addr} {xs : List V} (f : SqL K H a xs) (g : SqL K H b []) (h : Q (.bl !xs.isEmpty) H) : rEqNil K true (.ref a) (.ref b) H Q := ⟨a, b, xs, rfl, rfl, f, g, h⟩
theorem w_in {p : Addr} {x : V} {xs : List V} (f : SqL K H p xs ∨ SqT K H p xs) (c : flatV x = true) (d : xs.all flatV = true) (h : Q (.bl (inV x xs)) H) : rIn K false x (.ref p) H Q := ⟨p, xs, rfl, f, c, d, h⟩
theorem w_notIn {p : Addr} {x : V} {xs : List V} (f : SqL K H p xs ∨ SqT K H p xs) (c : flatV x = true) (d : xs.all flatV = true) (h : Q (.bl (!inV x xs)) H) : rIn K true x (.ref p) H Q := ⟨p, xs, rfl, f, c, d, h⟩
-- stores
theorem w_gName {i : Nat} {v : V} {QS : L2.St → Hp → Prop} (e : σ.set i (some v) = σ') (h : QS σ' H) : gName i v σ H QS := by subst e; exact h
theorem w_gTup {n : Nat} {t : TGs} {a : Addr} {xs : List V} {QS : L2.St → Hp → Prop} (f : SqT K H a xs) (e : xs.length = n) (h : t xs σ H QS) : gTup K n t (.ref a) σ H QS := ⟨a, xs, rfl, f, e, h⟩
theorem w_gNil {QS : L2.St → Hp → Prop} (h : QS σ H) : gNil [] σ H QS := ⟨rfl, h⟩
theorem w_gCons {t : TG} {u : TGs} {v : V} {r : List V} {QS : L2.St → Hp → Prop} (h : t v σ H fun σ' H' => u r σ' H' QS) : gCons t u (v :: r) σ H QS := ⟨v, r, rfl, h⟩
theorem w_gSub {to ti : TE} {t : TSet} {v : V} {QS : L2.St → Hp → Prop} (h : to σ H fun o H1 => ti σ H1 fun i H2 => t o i v H2 fun H3 => QS σ H3) : gSub to ti t v σ H QS := h
theorem w_setL {p : Addr} {xs : List V} {k : Int} {j : Nat} {v : V} {QH : Hp → Prop} (f : H p = some (.lst xs)) (e : ixN xs.length k = some j) (h : QH (upd H p (.lst (xs.set j v)))) : rSetL (.ref p) (.int k) v H QH := ⟨p, xs, k, j, rfl, rfl, f, e, h⟩
-- methods of lists
def KBm (K : PySem.W.Frag) (T : String) (r : V → List V → Hp → VK → Prop) (t : TA) (σ : L2.St) (Q : VK) (x : V) (H1 : Hp) : Prop := tyV K T x H1 ∧ t σ H1 fun xs H2 => r x xs H2 Q
theorem w_bm {T : String} {r : V → List V → Hp → VK → Prop} {to : TE} {t : TA} (h : to σ H (KBm K T r t σ Q)) : tBM K T r to t σ H Q := h
theorem w_tyL {r : V → List V → Hp → VK → Prop} {t : TA} {a : Addr} {xs : List V} (f : SqL K H a xs) (h : t σ H fun xs H2 => r (.ref a) xs H2 Q) : KBm K "list" r t σ Q (.ref a) H := ⟨.inl ⟨rfl, xs, f⟩, h⟩
theorem w_append {a : Addr} {xs : List V} {y : V} (f : H a = some (.lst xs)) (n : xs.length < 1000) (h : Q .non (upd H a (.lst (xs ++ [y])))) : rAppend (.ref a) [y] H Q := ⟨a, xs, y, rfl, rfl, f, Nat.lt_of_lt_of_le n (by decide), h⟩
-- slices
theorem w_sl {r : V → Option Int → Option Int → Hp → VK → Prop} {te : TE} {tl th : TO} (h : te σ H fun x H1 => tl σ H1 fun l H2 => th σ H2 fun u H3 => r x l u H3 Q) : tSl r te tl th σ H Q := h
def KPart (QO : Option Int → Hp → Prop) (x : V) (H1 : Hp) : Prop := ∃ i, x = .int i ∧ QO (some i) H1
theorem w_part {t : TE} {QO : Option Int → Hp → Prop} (h : t σ H (KPart QO)) : tPart t σ H QO := h
theorem w_partI {i : Int} {QO : Option Int → Hp → Prop} (h : QO (some i) H) : KPart QO (.int i) H := ⟨i, rfl, h⟩
theorem w_noPart {QO : Option Int → Hp → Prop} (h : QO none H) : tNoPart σ H QO := h
theorem cut_whole {xs : List V} {lo hi : Option Int} (h : HT.sIx xs.length 0 lo = 0 ∧ HT.sIx xs.length xs.length hi = xs.length) : cutV xs lo hi = xs := by
  unfold cutV
  rw [h.1, h.2, List.drop_zero, Nat.sub_zero, List.take_length]
theorem w_slA {L : List As} {p : Addr} {xs : List V} {lo hi : Option Int} (hS : Sep H L) (f : SqT K H p xs) (q : ∀ r H', Imm H H' → Sep H' L → SqT K H' r (cutV xs lo hi) → Q (.ref r) H') : rSlA K (.ref p) lo hi H Q :=
  ⟨p, xs, rfl, f, fun c => q p H (.refl _) hS (by rw [cut_whole c]; exact f), fun _ r hr => q r _ (Imm.new hr) (hS.skip hr) (.inl (.inl upd_same))⟩
theorem w_slL {L : List As} {p : Addr} {xs : List V} {lo hi : Option Int} (hS : Sep H L) (f : SqL K H p xs) (q : ∀ r H', Imm H H' → Sep H' (cellA r (.lst (cutV xs lo hi)) :: L) → Q (.ref r) H') : rSlL K (.ref p) lo hi H Q :=
  ⟨p, xs, rfl, f, fun r hr => q r _ (Imm.new hr) (hS.new hr)⟩
theorem w_ifI {b : Bool} {i j : Int} (h : Q (.int (if b = true then i else j)) H) : if b = true then tC (.int i) σ H Q else tC (.int j) σ H Q := by
  cases b <;> exact h
-- loops
def KFor (g : TG) (tb : TS) (D : Ends) (σ : L2.St) (J : It) (H1 : Hp) : Prop := ∃ W : Nat → Nat → L2.St → Hp → Prop, (∃ m, W 0 m σ H1) ∧ ∀ i m σ H, W i m σ H →
  (J.stop i H ∧ D.nx σ H) ∨ (J.go i H ∧ ∃ N : L2.St → Hp → Prop, (∀ σ' H', N σ' H' → ∃ m', m' < m ∧ W (i + 1) m' σ' H') ∧ ∀ x H', J.yld i H x H' → g x σ H' fun σ2 H2 => tb { D with nx := N, ct := N, bk := D.nx } σ2 H2)
theorem w_for {wi : TI} {g : TG} {tb : TS} (h : wi σ H (KFor g tb D σ)) : tFor wi g tb D σ H := h
def KLc (g : TG) (tt : TT) (te : TE) (vs : List Nat) (σ : L2.St) (Q : VK) (J : It) (H1 : Hp) : Prop := ∀ D, H1 D = none → ∃ W : Nat → Nat → Hp → Prop, (∃ m, W 0 m (upd H1 D (.lst []))) ∧ ∀ i m H, W i m H →
  (J.stop i H ∧ Q (.ref D) H) ∨ (J.go i H ∧ ∃ Nx : Hp → Prop, (∀ H', Nx H' → ∃ m', m' < m ∧ W (i + 1) m' H') ∧ ∀ x H', J.yld i H x H' → g x (wipe σ vs) H' fun σ2 H2 => wipe σ2 vs = wipe σ vs ∧ tt σ2 H2 fun b H3 =>
    if b = true then te σ2 H3 fun y H4 => ∃ acc, H4 D = some (.lst acc) ∧ acc.length < sizeLine ∧ Nx (upd H4 D (.lst (acc ++ [y]))) else Nx H3)
theorem w_lc {wi : TI} {g : TG} {tt : TT} {te : TE} {vs : List Nat} (h : wi σ H (KLc g tt te vs σ Q)) : tLc wi g tt te vs σ H Q := h
def KRng1 (R : It → Hp → Prop) (vs : List V) (H1 : Hp) : Prop := ∃ j : Int, vs = [.int j] ∧ -(2 ^ 62) ≤ j ∧ j < 2 ^ 62 ∧ R (Itr 0 j.toNat) H1
def KItl (K : PySem.W.Frag) (R : It → Hp → Prop) (x : V) (H1 : Hp) : Prop := ∃ a, x = .ref a ∧ (∃ xs, SqL K H1 a xs) ∧ R (Itl K a) H1
def KItt (K : PySem.W.Frag) (R : It → Hp → Prop) (x : V) (H1 : Hp) : Prop := ∃ a, x = .ref a ∧ (∃ xs, SqT K H1 a xs) ∧ R (Itt K a) H1
theorem w_rng1 {ta : TA} {R : It → Hp → Prop} (h : ta σ H (KRng1 R)) : iRng1 ta σ H R := h
theorem w_rng1I {j : Int} {R : It → Hp → Prop} (a : -(2 ^ 62) ≤ j ∧ j < 2 ^ 62) (h : R (Itr 0 j.toNat) H) : KRng1 R [.int j] H := ⟨j, rfl, a.1, a.2, h⟩
theorem w_iList {tl : TE} {R : It → Hp → Prop} (h : tl σ H (KItl K R)) : iList K tl σ H R := h
theorem w_iTup {tl : TE} {R : It → Hp → Prop} (h : tl σ H (KItt K R)) : iTup K tl σ H R := h
theorem w_itl {a : Addr} {xs : List V} {R : It → Hp → Prop} (f : SqL K H a xs) (h : R (Itl K a) H) : KItl K R (.ref a) H := ⟨a, rfl, ⟨xs, f⟩, h⟩
theorem w_itt {a : Addr} {xs : List V} {R : It → Hp → Prop} (f : SqT K H a xs) (h : R (Itt K a) H) : KItt K R (.ref a) H := ⟨a, rfl, ⟨xs, f⟩, h⟩
theorem k_forL {a : Addr} {xs : List V} {g : TG} {tb : TS} (Pv : Nat → L2.St → Hp → Prop) (h0 : Pv 0 σ H) (hG : ∀ i σ H, i ≤ xs.length → Pv i σ H → SqL K H a xs)
    (hs : ∀ i x σ H, i < xs.length → xs[i]? = some x → Pv i σ H → g x σ H fun σ2 H2 => tb { D with nx := Pv (i + 1), ct := Pv (i + 1), bk := D.nx } σ2 H2) (hd : ∀ σ H, Pv xs.length σ H → D.nx σ H) : KFor g tb D σ (Itl K a) H :=
  for_it (walk_list (xs := xs)) Pv h0 hG (fun i x σ H H' hi hP hY => by obtain ⟨rfl, e⟩ := hY; exact hs i x σ H' hi e hP) hd
theorem k_forT {a : Addr} {xs : List V} {g : TG} {tb : TS} (Pv : Nat → L2.St → Hp → Prop) (h0 : Pv 0 σ H) (hG : ∀ i σ H, i ≤ xs.length → Pv i σ H → SqT K H a xs)
    (hs : ∀ i x σ H, i < xs.length → xs[i]? = some x → Pv i σ H → g x σ H fun σ2 H2 => tb { D with nx := Pv (i + 1), ct := Pv (i + 1), bk := D.nx } σ2 H2) (hd : ∀ σ H, Pv xs.length σ H → D.nx σ H) : KFor g tb D σ (Itt K a) H :=
  for_it (walk_tup (xs := xs)) Pv h0 hG (fun i x σ H H' hi hP hY => by obtain ⟨rfl, e⟩ := hY; exact hs i x σ H' hi e hP) hd
theorem k_forR {n : Nat} {g : TG} {tb : TS} (Pv : Nat → L2.St → Hp → Prop) (h0 : Pv 0 σ H)
    (hs : ∀ i σ H, i < n → Pv i σ H → g (.int (i : Nat)) σ H fun σ2 H2 => tb { D with nx := Pv (i + 1), ct := Pv (i + 1), bk := D.nx } σ2 H2) (hd : ∀ σ H, Pv n σ H → D.nx σ H) : KFor g tb D σ (Itr 0 n) H :=
  for_it walk_range Pv h0 (fun _ _ _ _ _ => trivial) (fun i x σ H H' hi hP hY => by
    obtain ⟨rfl, e⟩ := hY
    have e2 : x = .int (i : Nat) := by rw [e]; show V.int (0 + (i : Int)) = _; rw [Int.zero_add]
    subst e2; exact hs i σ H' hi hP) hd
/-- what a comprehension's item leaves: a list that grows -/
def KAcc (D : Addr) (Nx : Hp → Prop) (y : V) (H4 : Hp) : Prop := ∃ acc, H4 D = some (.lst acc) ∧ acc.length < sizeLine ∧ Nx (upd H4 D (.lst (acc ++ [y])))
theorem k_acc {D : Addr} {acc : List V} {y : V} {Nx : Hp → Prop} (f : H D = some (.lst acc)) (n : acc.length < 1000) (h : Nx (upd H D (.lst (acc ++ [y])))) : KAcc D Nx y H := ⟨acc, f, Nat.lt_of_lt_of_le n (by decide), h⟩
def KLcB (g : TG) (tt : TT) (te : TE) (vs : List Nat) (σ : L2.St) (D : Addr) (x : V) (H' : Hp) (Nx : Hp → Prop) : Prop :=
  g x (wipe σ vs) H' fun σ2 H2 => wipe σ2 vs = wipe σ vs ∧ tt σ2 H2 fun b H3 => if b = true then te σ2 H3 (KAcc D Nx) else Nx H3
theorem k_lcB {g : TG} {tt : TT} {te : TE} {vs : List Nat} {D : Addr} {x : V} {Nx : Hp → Prop} (h : g x (wipe σ vs) H fun σ2 H2 => wipe σ2 vs = wipe σ vs ∧ tt σ2 H2 fun b H3 => if b = true then te σ2 H3 (KAcc D Nx) else Nx H3) : KLcB g tt te vs σ D x H Nx := h
theorem k_lcL {L : List As} {a : Addr} {xs : List V} {g : TG} {tt : TT} {te : TE} {vs : List Nat} (hS : Sep H L) (Pv : Addr → Nat → Hp → Prop) (h0 : ∀ D H', Imm H H' → Sep H' (cellA D (.lst []) :: L) → Pv D 0 H') (hG : ∀ D i H, i ≤ xs.length → Pv D i H → SqL K H a xs)
    (hs : ∀ D i x H, i < xs.length → xs[i]? = some x → Pv D i H → KLcB g tt te vs σ D x H (Pv D (i + 1))) (hd : ∀ D H, Pv D xs.length H → Q (.ref D) H) : KLc g tt te vs σ Q (Itl K a) H :=
  fun D hD => lc_it (walk_list (xs := xs)) (Pv D) (h0 D _ (Imm.new hD) (hS.new hD)) (hG D) (fun i x H H' hi hP hY => by obtain ⟨rfl, e⟩ := hY; exact hs D i x H' hi e hP) (hd D)
theorem k_lcT {L : List As} {a : Addr} {xs : List V} {g : TG} {tt : TT} {te : TE} {vs : List Nat} (hS : Sep H L) (Pv : Addr → Nat → Hp → Prop) (h0 : ∀ D H', Imm H H' → Sep H' (cellA D (.lst []) :: L) → Pv D 0 H') (hG : ∀ D i H, i ≤ xs.length → Pv D i H → SqT K H a xs)
    (hs : ∀ D i x H, i < xs.length → xs[i]? = some x → Pv D i H → KLcB g tt te vs σ D x H (Pv D (i + 1))) (hd : ∀ D H, Pv D xs.length H → Q (.ref D) H) : KLc g tt te vs σ Q (Itt K a) H :=
  fun D hD => lc_it (walk_tup (xs := xs)) (Pv D) (h0 D _ (Imm.new hD) (hS.new hD)) (hG D) (fun i x H H' hi hP hY => by obtain ⟨rfl, e⟩ := hY; exact hs D i x H' hi e hP) (hd D)
theorem k_lcR {L : List As} {n : Nat} {g : TG} {tt : TT} {te : TE} {vs : List Nat} (hS : Sep H L) (Pv : Addr → Nat → Hp → Prop) (h0 : ∀ D H', Imm H H' → Sep H' (cellA D (.lst []) :: L) → Pv D 0 H')
    (hs : ∀ D i H, i < n → Pv D i H → KLcB g tt te vs σ D (.int (i : Nat)) H (Pv D (i + 1))) (hd : ∀ D H, Pv D n H → Q (.ref D) H) : KLc g tt te vs σ Q (Itr 0 n) H :=
  fun D hD => lc_it walk_range (Pv D) (h0 D _ (Imm.new hD) (hS.new hD)) (fun _ _ _ _ => trivial) (fun i x H H' hi hP hY => by
    obtain ⟨rfl, e⟩ := hY
    have e2 : x = .int (i : Nat) := by rw [e]; show V.int (0 + (i : Int)) = _; rw [Int.zero_add]
    subst e2; exact hs D i H' hi hP) (hd D)
theorem w_yes {P : Prop} (e : P) (h : QB true H) : P ∧ tYes σ H QB := ⟨e, h⟩
def KWh (tb : TS) (W : Nat → L2.St → Hp → Prop) (D : Ends) (m : Nat) (σ : L2.St) (b : Bool) (H1 : Hp) : Prop := if b = true then ∃ N : L2.St → Hp → Prop, (∀ σ' H', N σ' H' → ∃ m', m' < m ∧ W m' σ' H') ∧ tb { D with nx := N, ct := N, bk := D.nx } σ H1 else D.nx σ H1
theorem w_while {c : TT} {tb : TS} (W : Nat → L2.St → Hp → Prop) (m : Nat) (h0 : W m σ H) (hs : ∀ m σ H, W m σ H → c σ H (KWh tb W D m σ)) : tWhile c tb D σ H := ⟨W, ⟨m, h0⟩, hs⟩
theorem k_turn {tb : TS} {W : Nat → L2.St → Hp → Prop} {m : Nat} (h : tb { D with nx := fun σ' H' => ∃ m', m' < m ∧ W m' σ' H', ct := fun σ' H' => ∃ m', m' < m ∧ W m' σ' H', bk := D.nx } σ H) : KWh tb W D m σ true H := iteT ⟨_, fun _ _ h => h, h⟩
theorem k_done {tb : TS} {W : Nat → L2.St → Hp → Prop} {m : Nat} (h : D.nx σ H) : KWh tb W D m σ false H := iteF h
end
end SD
set_option Elab.async false
set_option linter.all false
set_option maxRecDepth 100000
set_option maxHeartbeats 4000000
namespace SD
open PySem PySem.Spec PyProof.Rows L2 PySem.SeqAt
/-! a tuple beside an empty one -/
def rNeNilT (K : PySem.W.Frag) : R2 := fun x y H Q => ∃ a b xs, x = .ref a ∧ y = .ref b ∧ SqT K H a xs ∧ SqT K H b [] ∧ Q (.bl (!xs.isEmpty)) H
theorem op_neNilT {X : Cx} (hu : X.A.units + 1 < cLine) : OpR X (compareOp .NotEq) (rNeNilT X.K) := by
  intro pins s σ H x y v u Q I rx ry h
  obtain ⟨a, b, xs, rfl, rfl, ha, hb, q⟩ := h
  cases rx; cases ry
  obtain ⟨i1, r1, o1, _⟩ := I.tuple ha
  obtain ⟨i2, r2, o2, _⟩ := I.tuple hb
  cases r2
  cases xs with
  | nil =>
    cases r1
    refine (RcNeAt.tuples (e := fun _ => true) o1 o2 (Nat.lt_of_le_of_lt (Nat.le_succ _) hu) (fun j h1 h2 => absurd h2 (Nat.not_lt_zero _))) X.prog X.w _ _ ?_
    exact ⟨.bl _, H, I, rfl, q⟩
  | cons x0 xs =>
    cases r1
    refine (RcNeAt.tuples (e := fun _ => true) o1 o2 (Nat.lt_of_le_of_lt (Nat.le_succ _) hu) (fun j h1 h2 => absurd h2 (Nat.not_lt_zero _))) X.prog X.w _ _ ?_
    exact ⟨.bl _, H, I, rfl, q⟩
section
variable {K : PySem.W.Frag} {H : Hp} {σ : L2.St} {Q : VK} {QB : Bool → Hp → Prop} {D : Ends}
/-- what follows is walked once, from P -/
theorem w_join {t u : TS} (P : L2.St → Hp → Prop) (ht : ∀ (R : TS), (∀ σ' H', P σ' H' → R D σ' H') → t { D with nx := R D } σ H) (hu : ∀ σ' H', P σ' H' → u D σ' H') : tSeq t u D σ H := ht u hu
theorem w_orJ {u : TT} {c : Bool} (b : Bool) (hu : ∀ QB : Bool → Hp → Prop, QB b H → u σ H QB) (h : QB (c || b) H) : if c = true then QB true H else u σ H QB := by
  cases c with
  | true => exact iteT h
  | false => exact iteF (hu _ h)
theorem w_andJ {u : TT} {c : Bool} (b : Bool) (hu : ∀ QB : Bool → Hp → Prop, QB b H → u σ H QB) (h : QB (c && b) H) : if c = true then u σ H QB else QB false H := by
  cases c with
  | true => exact iteT (hu _ h)
  | false => exact iteF h
theorem w_catA {L : List As} {a b : Addr} {xs ys : List V} (hS : Sep H L) (f : SqT K H a xs) (g : SqT K H b ys) (n : xs.length + ys.length ≤ 1000) (q : ∀ p H', Imm H H' → Sep H' L → SqT K H' p (xs ++ ys) → Q (.ref p) H') : rCatA K (.ref a) (.ref b) H Q :=
  ⟨a, b, xs, ys, rfl, rfl, f, g, small n, fun e => q b H (.refl _) hS (by subst e; exact g), fun _ e => q a H (.refl _) hS (by subst e; rw [List.append_nil]; exact f), fun _ _ p hp => q p _ (Imm.new hp) (hS.skip hp) (.inl (.inl upd_same))⟩
theorem w_isi {x : V} {n : String} {b : Bool} (h : IsiOf K H x n b) (q : Q (.bl b) H) : rIsi' K [x, .ty n] H Q := ⟨x, n, b, rfl, h, q⟩
theorem w_neNilT {a b : Addr} {xs : List V} (f : SqT K H a xs) (g : SqT K H b []) (h : Q (.bl !xs.isEmpty) H) : rNeNilT K (.ref a) (.ref b) H Q := ⟨a, b, xs, rfl, rfl, f, g, h⟩
theorem isi_strT (i : Str) : IsiOf K H (.str i) "tuple" false := ⟨_, .base (.str i), kit_ty (by decide +kernel)⟩
theorem isi_intS (i : Int) : IsiOf K H (.int i) "str" false := ⟨_, .base (.int i), kit_ty (by decide +kernel)⟩
theorem isi_tupS {a : Addr} {xs : List V} (h : SqT K H a xs) : IsiOf K H (.ref a) "str" false := ⟨_, tyT h, kit_ty (by decide +kernel)⟩
theorem w_tupL {L : List As} {a : Addr} {xs : List V} (hS : Sep H L) (f : SqL K H a xs) (q : ∀ p H', Imm H H' → Sep H' L → SqT K H' p xs → Q (.ref p) H') : rTupleOf K [.ref a] H Q :=
  ⟨a, xs, rfl, .inl ⟨f, fun p hp => q p _ (Imm.new hp) (hS.skip hp) (.inl (.inl upd_same))⟩⟩
theorem k_tupS {xs : List V} (q : ∀ p H', Same H H' → SqT K H' p xs → Q (.ref p) H') (n : xs.length ≤ 1000 := by decide) : KTup Q xs H := ⟨small n, fun p hp => q p _ (same_new hp _) (.inl (.inl upd_same))⟩
def KFrz (nx : L2.St → Hp → Prop) (σ1 : L2.St) (H1 : Hp) : Prop := ∃ L : Addr → Prop, ∀ H2, Frzd L H1 H2 → nx σ1 H2
theorem w_frzS {t : TS} (h : t { D with nx := KFrz D.nx } σ H) : tFrzS t D σ H := h
theorem k_frz {L : List As} {p : Addr} {xs : List V} {nx : L2.St → Hp → Prop} (h : Sep H (cellA p (.lst xs) :: L)) (q : ∀ H', Imm H H' → Sep H' L → SqF K H' p xs → nx σ H') : KFrz nx σ H := by
  obtain ⟨c, R, rfl, h2, h3⟩ := h.open
  refine ⟨(· = p), fun H2 fz => q H2 (Imm.frzd fz) ⟨R, ?_, h3.mono (Imm.frzd fz)⟩ (sqf_of fz rfl h2.head)⟩
  exact h2.right.frzd fz fun x hx e => by
    have e : x.1 = p := e
    exact (List.nodup_cons.mp h2.nd).1 (List.mem_map.mpr ⟨x, hx, e⟩)
end
abbrev rMin2' : List V → Hp → VK → Prop := fun xs H Q => ∃ i j, xs = [.int i, .int j] ∧ Q (.int (if j < i then j else i)) H
abbrev rMax2' : List V → Hp → VK → Prop := fun xs H Q => ∃ i j, xs = [.int i, .int j] ∧ Q (.int (if j > i then j else i)) H
section
variable {K : PySem.W.Frag} {H : Hp} {σ : L2.St} {Q : VK}
theorem w_min {i j : Int} (h : Q (.int (if j < i then j else i)) H) : rMin2' [.int i, .int j] H Q := ⟨i, j, rfl, h⟩
theorem w_max {i j : Int} (h : Q (.int (if j > i then j else i)) H) : rMax2' [.int i, .int j] H Q := ⟨i, j, rfl, h⟩
theorem w_neB {i j : Bool} (h : Q (.bl (!decide (i = j))) H) : rNe (.bl i) (.bl j) H Q := ⟨rfl, by
  have e : (V.bl i = V.bl j) = (i = j) := propext ⟨fun h => V.bl.inj h, fun h => by rw [h]⟩
  simp only [e]; exact h⟩
theorem w_eqB {i j : Bool} (h : Q (.bl (decide (i = j))) H) : rEq (.bl i) (.bl j) H Q := ⟨rfl, by
  have e : (V.bl i = V.bl j) = (i = j) := propext ⟨fun h => V.bl.inj h, fun h => by rw [h]⟩
  simp only [e]; exact h⟩
theorem w_isNb {b : Bool} (h : Q (.bl false) H) : rIsN (.bl b) .non H Q := ⟨rfl, h⟩
theorem w_isNs {b : Str} (h : Q (.bl false) H) : rIsN (.str b) .non H Q := ⟨rfl, h⟩
theorem w_ixAT {p : Addr} {xs : List V} {i : Int} {v : V} (f : SqT K H p xs) (e : atI xs i = some v) (h : Q v H) : rIx K (.ref p) (.int i) H Q := .inr (.inl (w_ixT f e h))
theorem w_ixAL {p : Addr} {xs : List V} {i : Int} {v : V} (f : SqL K H p xs) (e : atI xs i = some v) (h : Q v H) : rIx K (.ref p) (.int i) H Q := .inl (w_ixL f e h)
theorem w_sum {a : Addr} {ns : List Int} (f : SqL K H a (ns.map V.int)) (h : Q (.int ns.sum) H) : rSum K [.ref a] H Q := ⟨a, ns, rfl, f, h⟩
theorem cutB2 (xs : List V) : cutV xs (some 2) none = xs.drop 2 := by
  unfold cutV
  rw [show HT.sIx xs.length 0 (some 2) = min 2 xs.length from HT.sIx_nat xs.length 0 2, HT.sIx_none]
  rcases Nat.lt_or_ge xs.length 2 with h | h
  · rw [Nat.min_eq_right (by omega), List.drop_of_length_le (Nat.le_refl _), List.drop_of_length_le (by omega), List.take_nil]
  · rw [Nat.min_eq_left h, List.take_of_length_le (by rw [List.length_drop]; exact Nat.le_refl _)]
end
end SD
set_option Elab.async false
set_option linter.all false
set_option maxRecDepth 100000
set_option maxHeartbeats 4000000
namespace SD
open PySem PySem.Spec PyProof.Rows L2
/-! ### programs as data -/
def ptD : Pt → PyData
  | .num n => .tuple [.str "num", .int n]
  | .name k => .tuple [.str "name", .int (k : Nat)]
  | .cell k => .tuple [.str "cell", .int (k : Nat)]
  | .two o a b => .tuple [.str o.str, ptD a, ptD b]
def ptsD : List Pt → List PyData
  | [] => []
  | p :: r => ptD p :: ptsD r
mutual
def ddD : Dd → PyData
  | .set k x => .tuple [.str "set", .int (k : Nat), ptD x]
  | .put k x => .tuple [.str "put", .int (k : Nat), ptD x]
  | .say x => .tuple [.str "say", ptD x]
  | .iff x b c => .tuple [.str "if", ptD x, .tuple (ddsD b), .tuple (ddsD c)]
  | .again x b => .tuple [.str "again", ptD x, .tuple (ddsD b)]
  | .call f xs k => .tuple [.str "call", .int (f : Nat), .tuple (ptsD xs), .int (k : Nat)]
  | .ret x => .tuple [.str "return", ptD x]
def ddsD : List Dd → List PyData
  | [] => []
  | d :: r => ddD d :: ddsD r
end
def fnsD : List Fn → List PyData
  | [] => []
  | f :: r => .tuple [.int (f.params : Nat), .int (f.names : Nat), .tuple (ddsD f.body)] :: fnsD r
def progD (p : Prog) : PyData := .tuple [.tuple (intsD p.cells), .tuple (fnsD p.funs), .tuple (intsD (p.hands.map fun n => ((n : Nat) : Int)))]
section
variable {K : PySem.W.Frag} {H : Hp}
theorem pt_dp : ∀ {p : Pt} {v : V}, PtAt K H p v → Dp K H v (ptD p)
  | .num n, v, ⟨a, e, h⟩ => by rw [e]; exact .tup h (.cons (.str _) (.cons (.int _) .nil))
  | .name n, v, ⟨a, e, h⟩ => by rw [e]; exact .tup h (.cons (.str _) (.cons (.int _) .nil))
  | .cell n, v, ⟨a, e, h⟩ => by rw [e]; exact .tup h (.cons (.str _) (.cons (.int _) .nil))
  | .two o x y, v, ⟨a, vx, vy, e, h, h1, h2⟩ => by rw [e]; exact .tup h (.cons (.str _) (.cons (pt_dp h1) (.cons (pt_dp h2) .nil)))
theorem pts_dp : ∀ {p : List Pt} {v : List V}, PtsAt K H p v → DpAll K H v (ptsD p)
  | [], v, h => by rw [show v = [] from h]; exact .nil
  | p :: r, v, ⟨a, t, e, h, h1⟩ => by rw [e]; exact .cons (pt_dp h) (pts_dp h1)
mutual
theorem dd_dp : ∀ {d : Dd} {v : V}, DdAt K H d v → Dp K H v (ddD d)
  | .set k x, v, ⟨a, vx, e, h, h1⟩ => by rw [e]; exact .tup h (.cons (.str _) (.cons (.int _) (.cons (pt_dp h1) .nil)))
  | .put k x, v, ⟨a, vx, e, h, h1⟩ => by rw [e]; exact .tup h (.cons (.str _) (.cons (.int _) (.cons (pt_dp h1) .nil)))
  | .say x, v, ⟨a, vx, e, h, h1⟩ => by rw [e]; exact .tup h (.cons (.str _) (.cons (pt_dp h1) .nil))
  | .iff x b c, v, ⟨a, vx, vb, vc, bs, cs, e, h, h1, h2, h3, h4, h5⟩ => by rw [e]; exact .tup h (.cons (.str _) (.cons (pt_dp h1) (.cons (.tup h2 (dds_dp h3)) (.cons (.tup h4 (dds_dp h5)) .nil))))
  | .again x b, v, ⟨a, vx, vb, bs, e, h, h1, h2, h3⟩ => by rw [e]; exact .tup h (.cons (.str _) (.cons (pt_dp h1) (.cons (.tup h2 (dds_dp h3)) .nil)))
  | .call f xs k, v, ⟨a, vp, ps, e, h, h1, h2⟩ => by rw [e]; exact .tup h (.cons (.str _) (.cons (.int _) (.cons (.tup h1 (pts_dp h2)) (.cons (.int _) .nil))))
  | .ret x, v, ⟨a, vx, e, h, h1⟩ => by rw [e]; exact .tup h (.cons (.str _) (.cons (pt_dp h1) .nil))
theorem dds_dp : ∀ {d : List Dd} {v : List V}, DdsAt K H d v → DpAll K H v (ddsD d)
  | [], v, h => by rw [show v = [] from h]; exact .nil
  | d :: r, v, ⟨a, t, e, h, h1⟩ => by rw [e]; exact .cons (dd_dp h) (dds_dp h1)
end
theorem fns_dp : ∀ {d : List Fn} {v : List V}, FnsAt K H d v → DpAll K H v (fnsD d)
  | [], v, h => by rw [show v = [] from h]; exact .nil
  | d :: r, v, ⟨a, t, e, ⟨b, vb, e2, h2, c, vs, e3, h3, h4⟩, h1⟩ => by
    rw [e, e2]; subst e3
    exact .cons (.tup h2 (.cons (.int _) (.cons (.int _) (.cons (.tup h3 (dds_dp h4)) .nil)))) (fns_dp h1)
theorem prog_dp {p : Prog} {v : V} : ProgAt K H p v → Dp K H v (progD p)
  | ⟨a, c, f, h, fs, e, h1, h2, h3, h4, h5⟩ => by
    rw [e]
    have e5 : (p.hands.map fun n => V.int (n : Nat)) = (p.hands.map fun n => ((n : Nat) : Int)).map V.int := by rw [List.map_map]; rfl
    rw [e5] at h5
    exact .tup h1 (.cons (.tup h2 (ints_dp _)) (.cons (.tup h3 (fns_dp h4)) (.cons (.tup h5 (ints_dp _)) .nil)))
end
/-! how many things stand in a tree -/
mutual
def cntD : PyData → Nat
  | .tuple xs => cntAll xs
  | _ => 0
def cntAll : List PyData → Nat
  | [] => 0
  | x :: r => (cntD x + headS x) + cntAll r
def headS : PyData → Nat
  | .tuple (.str _ :: _) => 1
  | _ => 0
end
theorem pt_cnt : ∀ p : Pt, cntD (ptD p) + headS (ptD p) = p.sz
  | .num n => rfl
  | .name n => rfl
  | .cell n => rfl
  | .two o a b => by
    show ((0 + 0) + ((cntD (ptD a) + headS (ptD a)) + ((cntD (ptD b) + headS (ptD b)) + 0))) + 1 = 1 + a.sz + b.sz
    rw [pt_cnt a, pt_cnt b]; omega
theorem pts_cnt : ∀ p : List Pt, cntAll (ptsD p) = szPs p
  | [] => rfl
  | p :: r => by
    show (cntD (ptD p) + headS (ptD p)) + cntAll (ptsD r) = p.sz + szPs r
    rw [pt_cnt p, pts_cnt r]
theorem dds_head : ∀ b : List Dd, headS (.tuple (ddsD b)) = 0
  | [] => rfl
  | d :: r => by cases d <;> rfl
theorem pts_head : ∀ b : List Pt, headS (.tuple (ptsD b)) = 0
  | [] => rfl
  | d :: r => by cases d <;> rfl
mutual
theorem dd_cnt : ∀ d : Dd, cntD (ddD d) + headS (ddD d) = d.sz
  | .set k x => by
    show ((0 + 0) + ((0 + 0) + ((cntD (ptD x) + headS (ptD x)) + 0))) + 1 = 1 + x.sz
    rw [pt_cnt x]; omega
  | .put k x => by
    show ((0 + 0) + ((0 + 0) + ((cntD (ptD x) + headS (ptD x)) + 0))) + 1 = 1 + x.sz
    rw [pt_cnt x]; omega
  | .say x => by
    show ((0 + 0) + ((cntD (ptD x) + headS (ptD x)) + 0)) + 1 = 1 + x.sz
    rw [pt_cnt x]; omega
  | .iff x b c => by
    show ((0 + 0) + ((cntD (ptD x) + headS (ptD x)) + ((cntAll (ddsD b) + headS (.tuple (ddsD b))) + ((cntAll (ddsD c) + headS (.tuple (ddsD c))) + 0)))) + 1 = 1 + x.sz + szDs b + szDs c
    rw [pt_cnt x, dds_cnt b, dds_cnt c, dds_head, dds_head]; omega
  | .again x b => by
    show ((0 + 0) + ((cntD (ptD x) + headS (ptD x)) + ((cntAll (ddsD b) + headS (.tuple (ddsD b))) + 0))) + 1 = 1 + x.sz + szDs b
    rw [pt_cnt x, dds_cnt b, dds_head]; omega
  | .call f xs k => by
    show ((0 + 0) + ((0 + 0) + ((cntAll (ptsD xs) + headS (.tuple (ptsD xs))) + ((0 + 0) + 0)))) + 1 = 1 + szPs xs
    rw [pts_cnt xs, pts_head]; omega
  | .ret x => by
    show ((0 + 0) + ((cntD (ptD x) + headS (ptD x)) + 0)) + 1 = 1 + x.sz
    rw [pt_cnt x]; omega
theorem dds_cnt : ∀ b : List Dd, cntAll (ddsD b) = szDs b
  | [] => rfl
  | d :: r => by
    show (cntD (ddD d) + headS (ddD d)) + cntAll (ddsD r) = d.sz + szDs r
    rw [dd_cnt d, dds_cnt r]
end
/-! depths -/
theorem pt_depth : ∀ p : Pt, (ptD p).depth ≤ p.dp
  | .num n => Nat.le_refl _
  | .name n => Nat.le_refl _
  | .cell n => Nat.le_refl _
  | .two o a b => by
    have h1 := pt_depth a
    have h2 := pt_depth b
    show max 0 (max (ptD a).depth (max (ptD b).depth 0)) + 1 ≤ 1 + max a.dp b.dp
    omega
theorem pts_depth : ∀ p : List Pt, PyData.depthAll (ptsD p) ≤ dpPs p
  | [] => Nat.le_refl _
  | p :: r => by
    have h1 := pt_depth p
    have h2 := pts_depth r
    show max (ptD p).depth (PyData.depthAll (ptsD r)) ≤ max p.dp (dpPs r)
    omega
mutual
theorem dd_depth : ∀ d : Dd, (ddD d).depth ≤ 2 * d.dp
  | .set k x => by
    have := pt_depth x
    show max 0 (max 0 (max (ptD x).depth 0)) + 1 ≤ 2 * (1 + x.dp)
    omega
  | .put k x => by
    have := pt_depth x
    show max 0 (max 0 (max (ptD x).depth 0)) + 1 ≤ 2 * (1 + x.dp)
    omega
  | .say x => by
    have := pt_depth x
    show max 0 (max (ptD x).depth 0) + 1 ≤ 2 * (1 + x.dp)
    omega
  | .iff x b c => by
    have := pt_depth x
    have := dds_depth b
    have := dds_depth c
    show max 0 (max (ptD x).depth (max (PyData.depthAll (ddsD b) + 1) (max (PyData.depthAll (ddsD c) + 1) 0))) + 1 ≤ 2 * (1 + max x.dp (max (dpDs b) (dpDs c)))
    omega
  | .again x b => by
    have := pt_depth x
    have := dds_depth b
    show max 0 (max (ptD x).depth (max (PyData.depthAll (ddsD b) + 1) 0)) + 1 ≤ 2 * (1 + max x.dp (dpDs b))
    omega
  | .call f xs k => by
    have := pts_depth xs
    show max 0 (max 0 (max (PyData.depthAll (ptsD xs) + 1) (max 0 0))) + 1 ≤ 2 * (1 + dpPs xs)
    omega
  | .ret x => by
    have := pt_depth x
    show max 0 (max (ptD x).depth 0) + 1 ≤ 2 * (1 + x.dp)
    omega
theorem dds_depth : ∀ b : List Dd, PyData.depthAll (ddsD b) ≤ 2 * dpDs b
  | [] => Nat.le_refl _
  | d :: r => by
    have := dd_depth d
    have := dds_depth r
    show max (ddD d).depth (PyData.depthAll (ddsD r)) ≤ 2 * max d.dp (dpDs r)
    omega
end
/-! laid -/
theorem pt_lay : ∀ p : Pt, (ptD p).canLay0 = true
  | .num n => by show (PyData.canLay0 (.str "num") && (true && true)) = true; decide +kernel
  | .name n => by show (PyData.canLay0 (.str "name") && (true && true)) = true; decide +kernel
  | .cell n => by show (PyData.canLay0 (.str "cell") && (true && true)) = true; decide +kernel
  | .two o a b => by
    show (PyData.canLay0 (.str o.str) && ((ptD a).canLay0 && ((ptD b).canLay0 && true))) = true
    rw [pt_lay a, pt_lay b]
    cases o <;> decide +kernel
theorem pts_lay : ∀ p : List Pt, PyData.canLayAll0 (ptsD p) = true
  | [] => rfl
  | p :: r => by show ((ptD p).canLay0 && PyData.canLayAll0 (ptsD r)) = true; rw [pt_lay p, pts_lay r]; rfl
mutual
theorem dd_lay : ∀ d : Dd, (ddD d).canLay0 = true
  | .set k x => by show (PyData.canLay0 (.str "set") && (true && ((ptD x).canLay0 && true))) = true; rw [pt_lay x]; decide +kernel
  | .put k x => by show (PyData.canLay0 (.str "put") && (true && ((ptD x).canLay0 && true))) = true; rw [pt_lay x]; decide +kernel
  | .say x => by show (PyData.canLay0 (.str "say") && ((ptD x).canLay0 && true)) = true; rw [pt_lay x]; decide +kernel
  | .iff x b c => by show (PyData.canLay0 (.str "if") && ((ptD x).canLay0 && (PyData.canLayAll0 (ddsD b) && (PyData.canLayAll0 (ddsD c) && true)))) = true; rw [pt_lay x, dds_lay b, dds_lay c]; decide +kernel
  | .again x b => by show (PyData.canLay0 (.str "again") && ((ptD x).canLay0 && (PyData.canLayAll0 (ddsD b) && true))) = true; rw [pt_lay x, dds_lay b]; decide +kernel
  | .call f xs k => by show (PyData.canLay0 (.str "call") && (true && (PyData.canLayAll0 (ptsD xs) && (true && true)))) = true; rw [pts_lay xs]; decide +kernel
  | .ret x => by show (PyData.canLay0 (.str "return") && ((ptD x).canLay0 && true)) = true; rw [pt_lay x]; decide +kernel
theorem dds_lay : ∀ b : List Dd, PyData.canLayAll0 (ddsD b) = true
  | [] => rfl
  | d :: r => by show ((ddD d).canLay0 && PyData.canLayAll0 (ddsD r)) = true; rw [dd_lay d, dds_lay r]; rfl
end
theorem fns_lay : ∀ b : List Fn, PyData.canLayAll0 (fnsD b) = true
  | [] => rfl
  | d :: r => by show ((true && (true && (PyData.canLayAll0 (ddsD d.body) && true))) && PyData.canLayAll0 (fnsD r)) = true; rw [dds_lay d.body, fns_lay r]; rfl
theorem prog_lay (p : Prog) : (progD p).canLay0 = true := by
  show (PyData.canLayAll0 (intsD p.cells) && (PyData.canLayAll0 (fnsD p.funs) && (PyData.canLayAll0 (intsD (p.hands.map fun n => ((n : Nat) : Int))) && true))) = true
  rw [ints_lay, fns_lay, ints_lay]; rfl
theorem ints_depth : ∀ xs : List Int, PyData.depthAll (intsD xs) = 0
  | [] => rfl
  | x :: r => by show max 0 (PyData.depthAll (intsD r)) = 0; rw [ints_depth r]; rfl
theorem fns_depth {n : Nat} : ∀ {b : List Fn}, (∀ f ∈ b, dpDs f.body ≤ n) → PyData.depthAll (fnsD b) ≤ 2 * n + 2
  | [], _ => Nat.zero_le _
  | d :: r, h => by
    have h1 := h d (List.mem_cons_self ..)
    have h2 := fns_depth (n := n) (b := r) fun f hf => h f (List.mem_cons_of_mem _ hf)
    have h3 := dds_depth d.body
    show max (max 0 (max 0 (max (PyData.depthAll (ddsD d.body) + 1) 0)) + 1) (PyData.depthAll (fnsD r)) ≤ 2 * n + 2
    omega
theorem prog_flat {p : Prog} (W : p.Wf) : Flat 20 (progD p) := by
  refine ⟨prog_lay p, ?_⟩
  have := fns_depth (n := 8) W.deep
  show max (PyData.depthAll (intsD p.cells) + 1) (max (PyData.depthAll (fnsD p.funs) + 1) (max (PyData.depthAll (intsD (p.hands.map fun n => ((n : Nat) : Int))) + 1) 0)) + 1 ≤ 20
  rw [ints_depth, ints_depth]; omega
/-! data of ints, texts and tuples alone -/
mutual
def okD : PyData → Bool
  | .int _ => true
  | .str _ => true
  | .tuple xs => okAll xs
  | _ => false
def okAll : List PyData → Bool
  | [] => true
  | x :: r => okD x && okAll r
end
mutual
theorem Dp.imm {K : PySem.W.Frag} {H H' : Hp} (i : Imm H H') : ∀ (d : PyData) {v : V}, okD d = true → Dp K H v d → Dp K H' v d
  | .int _, _, _, .int _ => .int _
  | .str _, _, _, .str _ => .str _
  | .tuple xs, _, o, .tup h hs => .tup (i.t h) (DpAll.imm i xs o hs)
theorem DpAll.imm {K : PySem.W.Frag} {H H' : Hp} (i : Imm H H') : ∀ (ds : List PyData) {vs : List V}, okAll ds = true → DpAll K H vs ds → DpAll K H' vs ds
  | [], _, _, .nil => .nil
  | d :: r, _, o, .cons h hs => .cons (Dp.imm i d (Bool.and_eq_true_iff.mp o).1 h) (DpAll.imm i r (Bool.and_eq_true_iff.mp o).2 hs)
end
theorem DpAll.get {K : PySem.W.Frag} {H : Hp} : ∀ {vs : List V} {ds : List PyData} {i : Nat} {x : V}, DpAll K H vs ds → vs[i]? = some x → ∃ d, ds[i]? = some d ∧ Dp K H x d
  | _, _, i, x, .nil, e => by simp at e
  | _, _, 0, x, .cons (d := d) h hs, e => by simp at e; subst e; exact ⟨d, rfl, h⟩
  | _, _, i + 1, x, .cons h hs, e => DpAll.get (i := i) hs (by simpa using e)
theorem DpAll.len {K : PySem.W.Frag} {H : Hp} : ∀ {vs : List V} {ds : List PyData}, DpAll K H vs ds → vs.length = ds.length
  | _, _, .nil => rfl
  | _, _, .cons h hs => congrArg (· + 1) (DpAll.len hs)
theorem okAll.get : ∀ {ds : List PyData} {i : Nat} {d : PyData}, okAll ds = true → ds[i]? = some d → okD d = true
  | [], i, d, _, e => by simp at e
  | x :: r, 0, d, o, e => by simp at e; subst e; exact (Bool.and_eq_true_iff.mp o).1
  | x :: r, i + 1, d, o, e => okAll.get (i := i) (Bool.and_eq_true_iff.mp o).2 (by simpa using e)
theorem depth_get : ∀ {ds : List PyData} {i : Nat} {d : PyData}, ds[i]? = some d → d.depth ≤ PyData.depthAll ds
  | [], i, d, e => by simp at e
  | x :: r, 0, d, e => by simp at e; subst e; exact Nat.le_max_left _ _
  | x :: r, i + 1, d, e => Nat.le_trans (depth_get (i := i) (by simpa using e)) (Nat.le_max_right _ _)
theorem cnt_snoc : ∀ (xs : List PyData) (x : PyData), cntAll (xs ++ [x]) = cntAll xs + (cntD x + headS x)
  | [], x => by show (cntD x + headS x) + 0 = 0 + (cntD x + headS x); omega
  | y :: r, x => by show (cntD y + headS y) + cntAll (r ++ [x]) = (cntD y + headS y) + cntAll r + (cntD x + headS x); rw [cnt_snoc r x]; omega
theorem pt_ok : ∀ p : Pt, okD (ptD p) = true
  | .num n => rfl
  | .name n => rfl
  | .cell n => rfl
  | .two o a b => by show (true && (okD (ptD a) && (okD (ptD b) && true))) = true; rw [pt_ok a, pt_ok b]; rfl
theorem pts_ok : ∀ p : List Pt, okAll (ptsD p) = true
  | [] => rfl
  | p :: r => by show (okD (ptD p) && okAll (ptsD r)) = true; rw [pt_ok p, pts_ok r]; rfl
mutual
theorem dd_ok : ∀ d : Dd, okD (ddD d) = true
  | .set k x => by show (true && (true && (okD (ptD x) && true))) = true; rw [pt_ok x]; rfl
  | .put k x => by show (true && (true && (okD (ptD x) && true))) = true; rw [pt_ok x]; rfl
  | .say x => by show (true && (okD (ptD x) && true)) = true; rw [pt_ok x]; rfl
  | .iff x b c => by show (true && (okD (ptD x) && (okAll (ddsD b) && (okAll (ddsD c) && true)))) = true; rw [pt_ok x, dds_ok b, dds_ok c]; rfl
  | .again x b => by show (true && (okD (ptD x) && (okAll (ddsD b) && true))) = true; rw [pt_ok x, dds_ok b]; rfl
  | .call f xs k => by show (true && (true && (okAll (ptsD xs) && (true && true)))) = true; rw [pts_ok xs]; rfl
  | .ret x => by show (true && (okD (ptD x) && true)) = true; rw [pt_ok x]; rfl
theorem dds_ok : ∀ b : List Dd, okAll (ddsD b) = true
  | [] => rfl
  | d :: r => by show (okD (ddD d) && okAll (ddsD r)) = true; rw [dd_ok d, dds_ok r]; rfl
end
section
variable {K : PySem.W.Frag} {H : Hp}
theorem DdsAt.app : ∀ {p q : List Dd} {v u : List V}, DdsAt K H p v → DdsAt K H q u → DdsAt K H (p ++ q) (v ++ u)
  | [], q, v, u, h, h2 => by rw [show v = [] from h]; exact h2
  | p :: r, q, v, u, ⟨a, t, e, h, h1⟩, h2 => ⟨a, t ++ u, by rw [e]; rfl, h, DdsAt.app h1 h2⟩
theorem PtsAt.app : ∀ {p q : List Pt} {v u : List V}, PtsAt K H p v → PtsAt K H q u → PtsAt K H (p ++ q) (v ++ u)
  | [], q, v, u, h, h2 => by rw [show v = [] from h]; exact h2
  | p :: r, q, v, u, ⟨a, t, e, h, h1⟩, h2 => ⟨a, t ++ u, by rw [e]; rfl, h, PtsAt.app h1 h2⟩
theorem FnsAt.app : ∀ {p q : List Fn} {v u : List V}, FnsAt K H p v → FnsAt K H q u → FnsAt K H (p ++ q) (v ++ u)
  | [], q, v, u, h, h2 => by rw [show v = [] from h]; exact h2
  | p :: r, q, v, u, ⟨a, t, e, h, h1⟩, h2 => ⟨a, t ++ u, by rw [e]; rfl, h, FnsAt.app h1 h2⟩
end
theorem wfDs_app {n c : Nat} {ps : List Nat} : ∀ {b e : List Dd}, wfDs n c ps b = true → wfDs n c ps e = true → wfDs n c ps (b ++ e) = true
  | [], e, _, h => h
  | d :: r, e, h1, h2 => by
    obtain ⟨a, b⟩ := Bool.and_eq_true_iff.mp h1
    exact Bool.and_eq_true_iff.mpr ⟨a, wfDs_app b h2⟩
theorem dpDs_app : ∀ {b e : List Dd}, dpDs (b ++ e) = max (dpDs b) (dpDs e)
  | [], e => (Nat.zero_max _).symm
  | d :: r, e => by show max d.dp (dpDs (r ++ e)) = max (max d.dp (dpDs r)) (dpDs e); rw [dpDs_app, Nat.max_assoc]
theorem wfPs_app {n c : Nat} : ∀ {b e : List Pt}, wfPs n c b = true → wfPs n c e = true → wfPs n c (b ++ e) = true
  | [], e, _, h => h
  | d :: r, e, h1, h2 => by
    obtain ⟨a, b⟩ := Bool.and_eq_true_iff.mp h1
    exact Bool.and_eq_true_iff.mpr ⟨a, wfPs_app b h2⟩
theorem dpPs_app : ∀ {b e : List Pt}, dpPs (b ++ e) = max (dpPs b) (dpPs e)
  | [], e => (Nat.zero_max _).symm
  | d :: r, e => by show max d.dp (dpPs (r ++ e)) = max (max d.dp (dpPs r)) (dpPs e); rw [dpPs_app, Nat.max_assoc]
end SD
set_option Elab.async false
set_option linter.all false
set_option maxRecDepth 100000
set_option maxHeartbeats 4000000
namespace SD
open PySem PySem.Spec PyProof.Rows L2
local macro_rules | `(tactic| walk_at "s1") => `(tactic| first
  | with_reducible refine w_nT ?_
  | with_reducible refine w_nF ?_
  | with_reducible refine w_frzS ?_
  | with_reducible refine w_seq ?_
  | with_reducible refine w_next ?_
  | with_reducible refine w_asg ?_
  | with_reducible refine w_drop ?_
  | with_reducible refine w_ret ?_
  | with_reducible refine w_retN ?_
  | with_reducible refine w_ifs ?_
  | with_reducible refine w_par ?_
  | with_reducible refine w_c ?_
  | with_reducible refine w_nil ?_
  | with_reducible refine w_cons ?_
  | with_reducible refine w_op ?_
  | with_reducible refine w_un ?_
  | with_reducible refine w_rI0 ?_
  | with_reducible refine w_rU ?_
  | with_reducible refine w_test ?_
  | with_reducible refine w_b ?_
  | with_reducible refine w_bl ?_
  | with_reducible refine w_and ?_
  | with_reducible refine w_or ?_
  | with_reducible refine w_not ?_
  | with_reducible refine w_andV ?_
  | with_reducible refine w_orV ?_
  | with_reducible refine w_notV ?_
  | with_reducible refine w_if ?_
  | with_reducible refine w_chain ?_
  | with_reducible refine w_eqI ?_
  | with_reducible refine w_neI ?_
  | with_reducible refine w_eqS ?_
  | with_reducible refine w_neS ?_
  | with_reducible refine w_pcons ?_
  | with_reducible refine w_pnil ?_
  | with_reducible refine w_dget ?_
  | with_reducible refine w_dget2 ?_
  | with_reducible refine w_dput ?_
  | with_reducible refine w_neB ?_
  | with_reducible refine w_eqB ?_
  | with_reducible refine w_isNb ?_
  | with_reducible refine w_isNs ?_
  | with_reducible refine w_min ?_
  | with_reducible refine w_max ?_
  | with_reducible refine w_isNn ?_
  | with_reducible refine w_isNi ?_
  | with_reducible refine w_isNr ?_
  | with_reducible refine w_notNn ?_
  | with_reducible refine w_notNi ?_
  | with_reducible refine w_notNr ?_
  | with_reducible refine w_call ?_
  | with_reducible refine w_cb ?_
  | with_reducible refine w_meth ?_
  | with_reducible refine w_make ?_
  | with_reducible refine w_tup ?_
  | with_reducible refine w_lst ?_
  | with_reducible refine w_int1b ?_
  | with_reducible refine w_int1 ?_
  | with_reducible refine w_gNil ?_
  | with_reducible refine w_gCons ?_
  | with_reducible refine w_gSub ?_
  | with_reducible refine w_bm ?_
  | with_reducible refine w_sl ?_
  | with_reducible refine w_part ?_
  | with_reducible refine w_partI ?_
  | with_reducible refine w_noPart ?_
  | with_reducible refine w_for ?_
  | with_reducible refine w_lc ?_
  | with_reducible refine w_rng1 ?_
  | with_reducible refine w_iList ?_
  | with_reducible refine w_iTup ?_
  | with_reducible refine w_break ?_
  | with_reducible refine w_cont ?_
  | ((with_reducible refine' w_var ?h ?_); (case h => exact rfl))
  | ((with_reducible refine' w_gName ?h ?_); (case h => (simp only [wipe, List.set]; rfl)))
  | ((with_reducible refine' w_par2 ?h ?_); (case h => (simp only [wipe, List.set]; rfl)))
  | ((with_reducible refine' w_mod ?h ?_); (case h => omega))
  | ((with_reducible refine' w_mul ?h ?_); (case h => omega))
  | ((with_reducible refine' w_rng1I ?h ?_); (case h => omega))
  | with_reducible refine iteT ?_
  | with_reducible refine iteF ?_
  | ((with_reducible refine' iteDT ?h ?_); (case h => omega))
  | ((with_reducible refine' iteDF ?h ?_); (case h => omega))
  | ((with_reducible refine' iteNT ?h ?_); (case h => omega))
  | ((with_reducible refine' iteNF ?h ?_); (case h => omega))
  | ((with_reducible refine' iteDT ?h ?_); (case h => decide +kernel))
  | ((with_reducible refine' iteDF ?h ?_); (case h => decide +kernel))
  | ((with_reducible refine' iteNT ?h ?_); (case h => decide +kernel))
  | ((with_reducible refine' iteNF ?h ?_); (case h => decide +kernel))
  | fail "stop")
local macro_rules | `(tactic| walk_at "st") => `(tactic| (walk_at "s1"; repeat' walk_at "s1"))
/-! ### _law_part -/
def sp_law_part (n : Nat) (K : PySem.W.Frag) (w : World) : Sp := fun vs H Q _ => ∃ (a d : Addr) (ns : List Int) (names cells deep : Nat) (L : List As), vs = [.ref d, .int (names : Nat), .int (cells : Nat), .int (deep : Nat)] ∧ deep < n ∧ 0 < cells ∧ cells ≤ 1000 ∧ names ≤ 1000 ∧
  Sep H (diceA K a d ns :: L) ∧ ∀ H' v p, Imm H H' → Sep H' (diceA K a d ns :: L) → PtAt K H' p v → p.wf names cells = true → p.dp ≤ deep + 1 → Q v H'
abbrev n_f_law_part : List Str := ["_law_d", "_law_names", "_law_cells", "_law_deep", "_law_way", "_law_number", "_law_word"]
def t_f_law_part (K : PySem.W.Frag) (w : World) (n : Nat) : TS :=
 (tSeq (tAsg (tCall (sp_law_next K w) [] E0 (tCons (tVar 0) (tCons (tC (.int 8)) tNil))) (gName 4))
 (tSeq (tIfS (tAnd (tTest (tOp (rI0 fun i j => .bl (decide (j < i))) (tVar 1) (tC (.int 0)))) (tTest (tOp (rI0 fun i j => .bl (decide (i < j))) (tVar 4) (tC (.int 3))))) (tRet (tTup (tCons (tC (.str "name")) (tCons (tCall (sp_law_next K w) [] E0 (tCons (tVar 0) (tCons (tVar 1) tNil))) tNil)))) tNext)
 (tSeq (tIfS (tOr (tTest (tOp rEq (tVar 3) (tC (.int 0)))) (tTest (tOp (rI0 fun i j => .bl (decide (i < j))) (tVar 4) (tC (.int 5))))) (tSeq (tAsg (tOp (rIxL K) (tLst (tCons (tCall (sp_law_next K w) [] E0 (tCons (tVar 0) (tCons (tC (.int 4)) tNil))) (tCons (tCall (sp_law_next K w) [] E0 (tCons (tVar 0) (tCons (tC (.int 10007)) tNil))) tNil))) (tCB rInt1 (tCons (tOp rEq (tCall (sp_law_next K w) [] E0 (tCons (tVar 0) (tCons (tC (.int 5)) tNil))) (tC (.int 4))) tNil))) (gName 5))
 (tRet (tOp (rIxL K) (tLst (tCons (tTup (tCons (tC (.str "num")) (tCons (tVar 5) tNil))) (tCons (tTup (tCons (tC (.str "cell")) (tCons (tCall (sp_law_next K w) [] E0 (tCons (tVar 0) (tCons (tVar 2) tNil))) tNil))) tNil))) (tOp (rI (fun _ j => 0 < j) fun i j => .int (i % j)) (tVar 4) (tC (.int 2)))))) tNext)
 (tSeq (tAsg (tOp (rIxL K) (tLst (tCons (tC (.str "add")) (tCons (tC (.str "take")) (tCons (tC (.str "times")) (tCons (tC (.str "less")) (tCons (tC (.str "same")) tNil)))))) (tCall (sp_law_next K w) [] E0 (tCons (tVar 0) (tCons (tC (.int 5)) tNil)))) (gName 6))
 (tRet (tTup (tCons (tVar 6) (tCons (tCall (sp_law_part n K w) [] E0 (tCons (tVar 0) (tCons (tVar 1) (tCons (tVar 2) (tCons (tOp (rI0 fun i j => .int (i - j)) (tVar 3) (tC (.int 1))) tNil))))) (tCons (tCall (sp_law_part n K w) [] E0 (tCons (tVar 0) (tCons (tVar 1) (tCons (tVar 2) (tCons (tOp (rI0 fun i j => .int (i - j)) (tVar 3) (tC (.int 1))) tNil))))) tNil)))))))))
theorem st_f_law_part {x0 x1 x2 x3 : V} : start n_f_law_part [x0, x1, x2, x3] = [some x0, some x1, some x2, some x3, none, none, none] := rfl
theorem pu_f_law_part {K : PySem.W.Frag} {w : World} (n : Nat) (vs : List V) (H : Hp) (Q : VK) (E : XK) (h : sp_law_part (n + 1) K w vs H Q E) : t_f_law_part K w n { nx := fun _ H' => Q .non H', rt := Q } (start n_f_law_part vs) H := by
  obtain ⟨a, d, ns, names, cells, deep, L, rfl, hd, hc, hc2, hn2, h0, q⟩ := h
  rw [st_f_law_part]
  unfold t_f_law_part
  walk_at "st"
  refine use_next h0 (by decide) (by decide) fun way H1 hw i1 h1 => ?_
  walk_at "st"
  refine w_andJ (decide ((way : Int) < 3)) (fun QB h => by walk_at "st"; exact h) ?_
  refine ite2 (fun c => ?_) fun c => ?_
  · have hn : 0 < names := by have := (Bool.and_eq_true_iff.mp c).1; have := of_decide_eq_true this; omega
    walk_at "st"
    refine use_next h1 (by omega) (by omega) fun r1 H2 hr1 i2 h2 => ?_
    walk_at "st"
    refine k_tup (K := K) h2 fun p1 H3 i3 h3 f3 => ?_
    exact q H3 _ (.name r1) (i1.trans (i2.trans i3)) h3 ⟨p1, rfl, f3⟩ (by simp [Pt.wf]; omega) (Nat.le_add_left _ _)
  replace q : ∀ (H' : Hp) (v : V) (p : Pt), Imm H1 H' → Sep H' (diceA K a d ns :: L) → PtAt K H' p v → Pt.wf names cells p = true → p.dp ≤ deep + 1 → Q v H' := fun H' v p i => q H' v p (i1.trans i)
  clear c
  walk_at "st"
  refine w_orJ (decide ((way : Int) < 5)) (fun QB h => by walk_at "st"; exact h) ?_
  refine ite2 (fun c => ?_) fun c => ?_
  · walk_at "st"
    refine use_next h1 (by decide) (by decide) fun r1 H2 hr1 i2 h2 => ?_
    walk_at "st"
    refine use_next h2 (by decide) (by decide) fun r2 H3 hr2 i3 h3 => ?_
    walk_at "st"
    refine k_lst h3 fun l1 H4 i4 h4 => ?_
    walk_at "st"
    refine use_next h4.swap (by decide) (by decide) fun r3 H5 hr3 i5 h5 => ?_
    walk_at "st"
    obtain ⟨num, hnum, hn0⟩ : ∃ num : Nat, atI [V.int (r1 : Nat), V.int (r2 : Nat)] (if decide (((r3 : Nat) : Int) = 4) = true then 1 else 0) = some (.int (num : Nat)) ∧ num < 10007 := by
      by_cases c : ((r3 : Nat) : Int) = 4
      · rw [decide_eq_true c]; exact ⟨r2, rfl, by omega⟩
      · rw [decide_eq_false c]; exact ⟨r1, rfl, by omega⟩
    refine w_ixL (SqL.of h5.swap.cell) hnum ?_
    have h5 : Sep H5 (diceA K a d ns :: L) := h5.swap.tail
    walk_at "st"
    refine k_tup (K := K) h5 fun p1 H6 i6 h6 f6 => ?_
    walk_at "st"
    refine use_next h6 (by omega) (by omega) fun r4 H7 hr4 i7 h7 => ?_
    walk_at "st"
    refine k_tup (K := K) h7 fun p2 H8 i8 h8 f8 => ?_
    walk_at "st"
    refine k_lst h8 fun l2 H9 i9 h9 => ?_
    walk_at "st"
    have i19 : Imm H1 H9 := i2.trans (i3.trans (i4.trans (i5.trans (i6.trans (i7.trans (i8.trans i9))))))
    have e2 : ((way : Nat) : Int) % 2 = 0 ∨ ((way : Nat) : Int) % 2 = 1 := by omega
    rcases e2 with e2 | e2
    · rw [e2]
      refine w_ixL (SqL.of h9.cell) (v := .ref p1) rfl ?_
      exact q H9 _ (.num (num : Nat)) i19 h9.tail ⟨p1, rfl, (i7.trans (i8.trans i9)).t f6⟩ (by simp [Pt.wf, REST]; omega) (Nat.le_add_left _ _)
    · rw [e2]
      refine w_ixL (SqL.of h9.cell) (v := .ref p2) rfl ?_
      exact q H9 _ (.cell r4) i19 h9.tail ⟨p2, rfl, i9.t f8⟩ (by simp [Pt.wf]; omega) (Nat.le_add_left _ _)
  have hdp : 0 < deep := by
    have : ¬ ((deep : Int) = 0) := fun e => c (by rw [decide_eq_true e]; rfl)
    omega
  walk_at "st"
  refine k_lst h1 fun l1 H2 i2 h2 => ?_
  walk_at "st"
  refine use_next h2.swap (by decide) (by decide) fun r1 H3 hr1 i3 h3 => ?_
  obtain ⟨o, ho⟩ : ∃ o : Op2, atI [V.str "add", V.str "take", V.str "times", V.str "less", V.str "same"] (r1 : Nat) = some (.str o.str) := by
    have : r1 = 0 ∨ r1 = 1 ∨ r1 = 2 ∨ r1 = 3 ∨ r1 = 4 := by omega
    rcases this with rfl | rfl | rfl | rfl | rfl
    · exact ⟨.add, rfl⟩
    · exact ⟨.take, rfl⟩
    · exact ⟨.times, rfl⟩
    · exact ⟨.less, rfl⟩
    · exact ⟨.same, rfl⟩
  refine w_ixL (SqL.of h3.swap.cell) ho ?_
  have h3 : Sep H3 (diceA K a d ns :: L) := h3.swap.tail
  walk_at "st"
  have ed : ((deep : Int) - 1) = ((deep - 1 : Nat) : Int) := by omega
  rw [ed]
  refine ⟨a, d, ns, names, cells, deep - 1, L, rfl, by omega, hc, hc2, hn2, h3, fun H4 v1 p1 i4 h4 f4 w4 d4 => ?_⟩
  walk_at "st"
  rw [ed]
  refine ⟨a, d, ns, names, cells, deep - 1, L, rfl, by omega, hc, hc2, hn2, h4, fun H5 v2 p2 i5 h5 f5 w5 d5 => ?_⟩
  walk_at "st"
  refine k_tup (K := K) h5 fun pt H6 i6 h6 f6 => ?_
  exact q H6 _ (.two o p1 p2) (i2.trans (i3.trans (i4.trans (i5.trans i6)))) h6 ⟨pt, _, _, rfl, f6, (f4.mono i5).mono i6, f5.mono i6⟩ (by simp only [Pt.wf, w4, w5]; rfl) (by simp only [Pt.dp]; omega)
end SD
set_option Elab.async false
set_option linter.all false
set_option maxRecDepth 100000
set_option maxHeartbeats 4000000
namespace SD
open PySem PySem.Spec PyProof.Rows L2
local macro_rules | `(tactic| walk_at "s1") => `(tactic| first
  | with_reducible refine w_nT ?_
  | with_reducible refine w_nF ?_
  | with_reducible refine w_frzS ?_
  | with_reducible refine w_seq ?_
  | with_reducible refine w_next ?_
  | with_reducible refine w_asg ?_
  | with_reducible refine w_drop ?_
  | with_reducible refine w_ret ?_
  | with_reducible refine w_retN ?_
  | with_reducible refine w_ifs ?_
  | with_reducible refine w_par ?_
  | with_reducible refine w_c ?_
  | with_reducible refine w_nil ?_
  | with_reducible refine w_cons ?_
  | with_reducible refine w_op ?_
  | with_reducible refine w_un ?_
  | with_reducible refine w_rI0 ?_
  | with_reducible refine w_rU ?_
  | with_reducible refine w_test ?_
  | with_reducible refine w_b ?_
  | with_reducible refine w_bl ?_
  | with_reducible refine w_and ?_
  | with_reducible refine w_or ?_
  | with_reducible refine w_not ?_
  | with_reducible refine w_andV ?_
  | with_reducible refine w_orV ?_
  | with_reducible refine w_notV ?_
  | with_reducible refine w_if ?_
  | with_reducible refine w_chain ?_
  | with_reducible refine w_eqI ?_
  | with_reducible refine w_neI ?_
  | with_reducible refine w_eqS ?_
  | with_reducible refine w_neS ?_
  | with_reducible refine w_pcons ?_
  | with_reducible refine w_pnil ?_
  | with_reducible refine w_dget ?_
  | with_reducible refine w_dget2 ?_
  | with_reducible refine w_dput ?_
  | with_reducible refine w_neB ?_
  | with_reducible refine w_eqB ?_
  | with_reducible refine w_isNb ?_
  | with_reducible refine w_isNs ?_
  | with_reducible refine w_min ?_
  | with_reducible refine w_max ?_
  | with_reducible refine w_isNn ?_
  | with_reducible refine w_isNi ?_
  | with_reducible refine w_isNr ?_
  | with_reducible refine w_notNn ?_
  | with_reducible refine w_notNi ?_
  | with_reducible refine w_notNr ?_
  | with_reducible refine w_call ?_
  | with_reducible refine w_cb ?_
  | with_reducible refine w_meth ?_
  | with_reducible refine w_make ?_
  | with_reducible refine w_tup ?_
  | with_reducible refine w_lst ?_
  | with_reducible refine w_int1b ?_
  | with_reducible refine w_int1 ?_
  | with_reducible refine w_gNil ?_
  | with_reducible refine w_gCons ?_
  | with_reducible refine w_gSub ?_
  | with_reducible refine w_bm ?_
  | with_reducible refine w_sl ?_
  | with_reducible refine w_part ?_
  | with_reducible refine w_partI ?_
  | with_reducible refine w_noPart ?_
  | with_reducible refine w_for ?_
  | with_reducible refine w_lc ?_
  | with_reducible refine w_rng1 ?_
  | with_reducible refine w_iList ?_
  | with_reducible refine w_iTup ?_
  | with_reducible refine w_break ?_
  | with_reducible refine w_cont ?_
  | ((with_reducible refine' w_var ?h ?_); (case h => exact rfl))
  | ((with_reducible refine' w_gName ?h ?_); (case h => (simp only [wipe, List.set]; rfl)))
  | ((with_reducible refine' w_par2 ?h ?_); (case h => (simp only [wipe, List.set]; rfl)))
  | ((with_reducible refine' w_mod ?h ?_); (case h => omega))
  | ((with_reducible refine' w_mul ?h ?_); (case h => omega))
  | ((with_reducible refine' w_rng1I ?h ?_); (case h => omega))
  | with_reducible refine iteT ?_
  | with_reducible refine iteF ?_
  | ((with_reducible refine' iteDT ?h ?_); (case h => omega))
  | ((with_reducible refine' iteDF ?h ?_); (case h => omega))
  | ((with_reducible refine' iteNT ?h ?_); (case h => omega))
  | ((with_reducible refine' iteNF ?h ?_); (case h => omega))
  | ((with_reducible refine' iteDT ?h ?_); (case h => decide +kernel))
  | ((with_reducible refine' iteDF ?h ?_); (case h => decide +kernel))
  | ((with_reducible refine' iteNT ?h ?_); (case h => decide +kernel))
  | ((with_reducible refine' iteNF ?h ?_); (case h => decide +kernel))
  | fail "stop")
local macro_rules | `(tactic| walk_at "st") => `(tactic| (walk_at "s1"; repeat' walk_at "s1"))
/-! ### _law_count -/
def sp_law_count (n : Nat) (K : PySem.W.Frag) (w : World) : Sp := fun vs H Q _ => ∃ (a : Addr) (xs : List V) (ds : List PyData), vs = [.ref a] ∧ PyData.depthAll ds < n ∧ SqT K H a xs ∧ DpAll K H xs ds ∧ okAll ds = true ∧ ∀ H', Same H H' → Q (.int (cntAll ds : Nat)) H'
abbrev n_f_law_count : List Str := ["_law_thing", "_law_found", "_law_part_here"]
def t_f_law_count (K : PySem.W.Frag) (w : World) (n : Nat) : TS :=
 (tSeq (tAsg (tC (.int 0)) (gName 1))
 (tSeq (tFor (iTup K (tVar 0)) (gName 2) (tIfS (tB (tCB (rIsi' K) (tCons (tVar 2) (tCons (tC (.ty "tuple")) tNil)))) (tAsg (tOp (rI0 fun i j => .int (i + j)) (tOp (rI0 fun i j => .int (i + j)) (tVar 1) (tCall (sp_law_count n K w) [] E0 (tCons (tVar 2) tNil))) (tCB rInt1 (tCons (tAndV (tOp (rNeNilT K) (tVar 2) (tTup tNil)) (tCB (rIsi' K) (tCons (tOp (rIxT K) (tVar 2) (tC (.int 0))) (tCons (tC (.ty "str")) tNil)))) tNil))) (gName 1)) tNext))
 (tRet (tVar 1))))
theorem st_f_law_count {x0 : V} : start n_f_law_count [x0] = [some x0, none, none] := rfl
theorem pu_f_law_count {K : PySem.W.Frag} {w : World} (n : Nat) (vs : List V) (H : Hp) (Q : VK) (E : XK) (h : sp_law_count (n + 1) K w vs H Q E) : t_f_law_count K w n { nx := fun _ H' => Q .non H', rt := Q } (start n_f_law_count vs) H := by
  obtain ⟨a, xs, ds, rfl, hd, ha, hx, ok, q⟩ := h
  rw [st_f_law_count]
  unfold t_f_law_count
  walk_at "st"
  refine w_itt ha ?_
  have hl := DpAll.len hx
  refine k_forT (fun i σ H' => ∃ x2, σ = [some (.ref a), some (.int (cntAll (ds.take i) : Nat)), x2] ∧ Same H H') ⟨_, rfl, Same.refl _⟩ (fun i σ H' _ ⟨_, _, s⟩ => (Imm.same s).t ha) (fun i x σ H1 hi hxi hP => ?_) fun σ H1 hP => ?_
  · obtain ⟨x2, rfl, s1⟩ := hP
    obtain ⟨d, hdi, hdp⟩ := DpAll.get hx hxi
    have hdp1 := Dp.imm (Imm.same s1) d (okAll.get ok hdi) hdp
    have hod := okAll.get ok hdi
    have hsn : cntAll (ds.take (i + 1)) = cntAll (ds.take i) + (cntD d + headS d) := by rw [take_snoc hdi, cnt_snoc]
    walk_at "st"
    cases hdp1 with
    | non => cases hod
    | bl b => cases hod
    | lst h1 h2 => cases hod
    | int z =>
      refine w_isi (isi_intT K H1 z) ?_
      walk_at "st"
      exact ⟨_, by rw [hsn]; rfl, s1⟩
    | str z =>
      refine w_isi (isi_strT z) ?_
      walk_at "st"
      exact ⟨_, by rw [hsn]; rfl, s1⟩
    | @tup b zs ys h1 h2 =>
      refine w_isi (isi_tup h1) ?_
      walk_at "st"
      have hdep : PyData.depthAll ys + 1 ≤ PyData.depthAll ds := depth_get hdi
      refine ⟨b, zs, ys, rfl, by omega, h1, h2, hod, fun H2 s2 => ?_⟩
      walk_at "st"
      refine k_tupS (K := K) fun p H3 s3 f3 => ?_
      refine w_neNilT ((Imm.same (s2.trans s3)).t h1) f3 ?_
      have i13 : Imm H1 H3 := Imm.same (s2.trans s3)
      have h13 := i13.t h1
      have h23 := DpAll.imm i13 ys hod h2
      have fin : ∀ z : Nat, z = headS (.tuple ys) → (∃ x2, ([some (V.ref a), some (V.int ((cntAll (ds.take i) : Nat) + (cntAll ys : Nat) + (z : Nat))), some (V.ref b)] : L2.St) = [some (V.ref a), some (V.int (cntAll (ds.take (i + 1)) : Nat)), x2] ∧ Same H H3) := by
        rintro z rfl
        refine ⟨some (.ref b), ?_, s1.trans (s2.trans s3)⟩
        rw [hsn]
        show [some (V.ref a), some (V.int _), some (V.ref b)] = [some (V.ref a), some (V.int ((cntAll (ds.take i) + (cntAll ys + headS (.tuple ys)) : Nat) : Int)), some (V.ref b)]
        rw [show ((cntAll (ds.take i) + (cntAll ys + headS (.tuple ys)) : Nat) : Int) = (cntAll (ds.take i) : Nat) + (cntAll ys : Nat) + (headS (.tuple ys) : Nat) by omega]
      cases h23 with
      | nil =>
        walk_at "st"
        refine w_nT ?_
        walk_at "st"
        exact fin 0 rfl
      | @cons v vs' y ys' hy hys =>
        walk_at "st"
        refine w_nF ?_
        walk_at "st"
        refine w_ixT h13 (atI_nat (j := 0) (v := v) rfl) ?_
        have hoy : okD y = true := (Bool.and_eq_true_iff.mp hod).1
        cases hy with
        | non => cases hoy
        | bl b => cases hoy
        | lst h1 h2 => cases hoy
        | int z =>
          walk_at "st"
          refine w_isi (isi_intS z) ?_
          walk_at "st"
          exact fin 0 rfl
        | str z =>
          walk_at "st"
          refine w_isi (isi_strS K H3 z) ?_
          walk_at "st"
          exact fin 1 rfl
        | tup g1 g2 =>
          walk_at "st"
          refine w_isi (isi_tupS g1) ?_
          walk_at "st"
          exact fin 0 rfl
  · obtain ⟨x2, rfl, s1⟩ := hP
    rw [hl, List.take_length]
    walk_at "st"
    exact q H1 s1
theorem use_count {K : PySem.W.Frag} {w : World} {H : Hp} {L : List As} {Q : VK} {E : XK} {b : List Dd} {a : Addr} {bs : List V} (h : Sep H L) (f : SqT K H a bs) (hb : DdsAt K H b bs) (hd : dpDs b ≤ 8) (q : ∀ H', Imm H H' → Sep H' L → Q (.int (szDs b : Nat)) H') : sp_law_count 20 K w [.ref a] H Q E := by
  have := dds_depth b
  exact ⟨a, bs, ddsD b, rfl, by omega, f, dds_dp hb, dds_ok b, fun H' s => by rw [dds_cnt]; exact q H' (Imm.same s) (h.same s)⟩
end SD
set_option Elab.async false
set_option linter.all false
set_option maxRecDepth 100000
set_option maxHeartbeats 4000000
namespace SD
open PySem PySem.Spec PyProof.Rows L2
local macro_rules | `(tactic| walk_at "s1") => `(tactic| first
  | with_reducible refine w_nT ?_
  | with_reducible refine w_nF ?_
  | with_reducible refine w_frzS ?_
  | with_reducible refine w_seq ?_
  | with_reducible refine w_next ?_
  | with_reducible refine w_asg ?_
  | with_reducible refine w_drop ?_
  | with_reducible refine w_ret ?_
  | with_reducible refine w_retN ?_
  | with_reducible refine w_ifs ?_
  | with_reducible refine w_par ?_
  | with_reducible refine w_c ?_
  | with_reducible refine w_nil ?_
  | with_reducible refine w_cons ?_
  | with_reducible refine w_op ?_
  | with_reducible refine w_un ?_
  | with_reducible refine w_rI0 ?_
  | with_reducible refine w_rU ?_
  | with_reducible refine w_test ?_
  | with_reducible refine w_b ?_
  | with_reducible refine w_bl ?_
  | with_reducible refine w_and ?_
  | with_reducible refine w_or ?_
  | with_reducible refine w_not ?_
  | with_reducible refine w_andV ?_
  | with_reducible refine w_orV ?_
  | with_reducible refine w_notV ?_
  | with_reducible refine w_if ?_
  | with_reducible refine w_chain ?_
  | with_reducible refine w_eqI ?_
  | with_reducible refine w_neI ?_
  | with_reducible refine w_eqS ?_
  | with_reducible refine w_neS ?_
  | with_reducible refine w_pcons ?_
  | with_reducible refine w_pnil ?_
  | with_reducible refine w_dget ?_
  | with_reducible refine w_dget2 ?_
  | with_reducible refine w_dput ?_
  | with_reducible refine w_neB ?_
  | with_reducible refine w_eqB ?_
  | with_reducible refine w_isNb ?_
  | with_reducible refine w_isNs ?_
  | with_reducible refine w_min ?_
  | with_reducible refine w_max ?_
  | with_reducible refine w_isNn ?_
  | with_reducible refine w_isNi ?_
  | with_reducible refine w_isNr ?_
  | with_reducible refine w_notNn ?_
  | with_reducible refine w_notNi ?_
  | with_reducible refine w_notNr ?_
  | with_reducible refine w_call ?_
  | with_reducible refine w_cb ?_
  | with_reducible refine w_meth ?_
  | with_reducible refine w_make ?_
  | with_reducible refine w_tup ?_
  | with_reducible refine w_lst ?_
  | with_reducible refine w_int1b ?_
  | with_reducible refine w_int1 ?_
  | with_reducible refine w_gNil ?_
  | with_reducible refine w_gCons ?_
  | with_reducible refine w_gSub ?_
  | with_reducible refine w_bm ?_
  | with_reducible refine w_sl ?_
  | with_reducible refine w_part ?_
  | with_reducible refine w_partI ?_
  | with_reducible refine w_noPart ?_
  | with_reducible refine w_for ?_
  | with_reducible refine w_lc ?_
  | with_reducible refine w_rng1 ?_
  | with_reducible refine w_iList ?_
  | with_reducible refine w_iTup ?_
  | with_reducible refine w_break ?_
  | with_reducible refine w_cont ?_
  | ((with_reducible refine' w_var ?h ?_); (case h => exact rfl))
  | ((with_reducible refine' w_gName ?h ?_); (case h => (simp only [wipe, List.set]; rfl)))
  | ((with_reducible refine' w_par2 ?h ?_); (case h => (simp only [wipe, List.set]; rfl)))
  | ((with_reducible refine' w_mod ?h ?_); (case h => omega))
  | ((with_reducible refine' w_mul ?h ?_); (case h => omega))
  | ((with_reducible refine' w_rng1I ?h ?_); (case h => omega))
  | with_reducible refine iteT ?_
  | with_reducible refine iteF ?_
  | ((with_reducible refine' iteDT ?h ?_); (case h => omega))
  | ((with_reducible refine' iteDF ?h ?_); (case h => omega))
  | ((with_reducible refine' iteNT ?h ?_); (case h => omega))
  | ((with_reducible refine' iteNF ?h ?_); (case h => omega))
  | ((with_reducible refine' iteDT ?h ?_); (case h => decide +kernel))
  | ((with_reducible refine' iteDF ?h ?_); (case h => decide +kernel))
  | ((with_reducible refine' iteNT ?h ?_); (case h => decide +kernel))
  | ((with_reducible refine' iteNF ?h ?_); (case h => decide +kernel))
  | fail "stop")
local macro_rules | `(tactic| walk_at "st") => `(tactic| (walk_at "s1"; repeat' walk_at "s1"))
theorem use_part {K : PySem.W.Frag} {w : World} {H : Hp} {L : List As} {Q : VK} {E : XK} {a d : Addr} {ns : List Int} {names cells deep : Nat} (h : Sep H (diceA K a d ns :: L)) (hd : deep < 4) (hc : 0 < cells) (hc2 : cells ≤ 1000) (hn : names ≤ 1000)
    (q : ∀ v p H', Imm H H' → Sep H' (diceA K a d ns :: L) → PtAt K H' p v → p.wf names cells = true → p.dp ≤ deep + 1 → Q v H') : sp_law_part 4 K w [.ref d, .int (names : Nat), .int (cells : Nat), .int (deep : Nat)] H Q E :=
  ⟨a, d, ns, names, cells, deep, L, rfl, hd, hc, hc2, hn, h, fun H' v p i h' f w d => q v p H' i h' f w d⟩
/-! ### _law_body -/
structure BodyIn (K : PySem.W.Frag) (H : Hp) (ps pl : Addr) (names cells : Nat) (params : List Nat) : Prop where
  c0 : 0 < cells
  c1 : cells ≤ 1000
  n1 : names ≤ 1000
  p0 : params ≠ []
  p1 : params.length ≤ 1000
  p2 : ∀ p ∈ params, p ≤ 900
  s : SqT K H ps [.int (names : Nat), .int (cells : Nat), .ref pl]
  l : SqF K H pl (params.map fun n => V.int (n : Nat))
theorem BodyIn.mono {K : PySem.W.Frag} {H H' : Hp} {ps pl : Addr} {names cells : Nat} {params : List Nat} (i : Imm H H') (h : BodyIn K H ps pl names cells params) : BodyIn K H' ps pl names cells params :=
  ⟨h.c0, h.c1, h.n1, h.p0, h.p1, h.p2, i.t h.s, i.f h.l⟩
def sp_law_body (n : Nat) (K : PySem.W.Frag) (w : World) : Sp := fun vs H Q _ => ∃ (a d ps pl : Addr) (ns : List Int) (names cells deep most : Nat) (params : List Nat) (L : List As), vs = [.ref d, .ref ps, .int (deep : Nat), .int (most : Nat)] ∧ deep < n ∧ most ≤ 100 ∧
  BodyIn K H ps pl names cells params ∧ Sep H (diceA K a d ns :: L) ∧ ∀ H' v b, Imm H H' → Sep H' (diceA K a d ns :: L) → BodyAt K H' b v → wfDs names cells params b = true → dpDs b ≤ deep + 4 → b.length ≤ most → Q v H'
def PBody (K : PySem.W.Frag) (H0 : Hp) (a d ps pl : Addr) (ns : List Int) (names cells deep most : Nat) (params : List Nat) (L : List As) (i : Nat) (σ : L2.St) (H : Hp) : Prop :=
  ∃ b a4 bs x8 x9 x10 x11 x12 x13 x14, σ = [some (.ref d), some (.ref ps), some (.int (deep : Nat)), some (.int (most : Nat)), some (.ref a4), some (.int (names : Nat)), some (.int (cells : Nat)), some (.ref pl), x8, x9, x10, x11, x12, x13, x14] ∧ Imm H0 H ∧
    Sep H (diceA K a d ns :: L) ∧ SqT K H a4 bs ∧ DdsAt K H b bs ∧ wfDs names cells params b = true ∧ dpDs b ≤ deep + 4 ∧ b.length ≤ i
abbrev n_f_law_body : List Str := ["_law_d", "_law_s", "_law_deep", "_law_most", "_law_found", "_law_names", "_law_cells", "_law_params", "_law_turn", "_law_way", "_law_part_here", "_law_inner", "_law_k", "_law_fun", "_law_parts"]
def t_f_law_body (K : PySem.W.Frag) (w : World) (n : Nat) : TS :=
 (tSeq (tAsg (tTup tNil) (gName 4))
 (tSeq (tAsg (tVar 1) (gTup K 3 (gCons (gName 5) (gCons (gName 6) (gCons (gName 7) gNil)))))
 (tSeq (tFor (iRng1 (tCons (tCall (sp_law_next K w) [] E0 (tCons (tVar 0) (tCons (tOp (rI0 fun i j => .int (i + j)) (tVar 3) (tC (.int 1))) tNil))) tNil)) (gName 8) (tSeq (tAsg (tCall (sp_law_next K w) [] E0 (tCons (tVar 0) (tCons (tC (.int 11)) tNil))) (gName 9))
 (tSeq (tAsg (tCall (sp_law_part 4 K w) [] E0 (tCons (tVar 0) (tCons (tVar 5) (tCons (tVar 6) (tCons (tCall (sp_law_next K w) [] E0 (tCons (tVar 0) (tCons (tC (.int 3)) tNil))) tNil))))) (gName 10))
 (tIfS (tAnd (tTest (tOp (rI0 fun i j => .bl (decide (i < j))) (tVar 9) (tC (.int 2)))) (tTest (tOp (rI0 fun i j => .bl (decide (j < i))) (tVar 5) (tC (.int 0))))) (tAsg (tOp (rCatA K) (tVar 4) (tTup (tCons (tTup (tCons (tC (.str "set")) (tCons (tCall (sp_law_next K w) [] E0 (tCons (tVar 0) (tCons (tVar 5) tNil))) (tCons (tVar 10) tNil)))) tNil))) (gName 4)) (tIfS (tTest (tOp (rI0 fun i j => .bl (decide (i < j))) (tVar 9) (tC (.int 4)))) (tAsg (tOp (rCatA K) (tVar 4) (tTup (tCons (tTup (tCons (tC (.str "put")) (tCons (tCall (sp_law_next K w) [] E0 (tCons (tVar 0) (tCons (tVar 6) tNil))) (tCons (tVar 10) tNil)))) tNil))) (gName 4)) (tIfS (tTest (tOp (rI0 fun i j => .bl (decide (i < j))) (tVar 9) (tC (.int 6)))) (tAsg (tOp (rCatA K) (tVar 4) (tTup (tCons (tTup (tCons (tC (.str "say")) (tCons (tVar 10) tNil))) tNil))) (gName 4)) (tIfS (tAnd (tTest (tOp rEq (tVar 9) (tC (.int 6)))) (tTest (tOp (rI0 fun i j => .bl (decide (j < i))) (tVar 2) (tC (.int 0))))) (tSeq (tAsg (tLc (iRng1 (tCons (tC (.int 2)) tNil)) (gName 12) tYes (tCall (sp_law_body n K w) [] E0 (tCons (tVar 0) (tCons (tVar 1) (tCons (tOp (rI0 fun i j => .int (i - j)) (tVar 2) (tC (.int 1))) (tCons (tC (.int 2)) tNil))))) [12]) (gName 11))
 (tAsg (tOp (rCatA K) (tVar 4) (tTup (tCons (tTup (tCons (tC (.str "if")) (tCons (tVar 10) (tCons (tOp (rIxL K) (tVar 11) (tC (.int 0))) (tCons (tOp (rIxL K) (tVar 11) (tC (.int 1))) tNil))))) tNil))) (gName 4))) (tIfS (tAnd (tTest (tOp rEq (tVar 9) (tC (.int 7)))) (tTest (tOp (rI0 fun i j => .bl (decide (j < i))) (tVar 2) (tC (.int 0))))) (tAsg (tOp (rCatA K) (tVar 4) (tTup (tCons (tTup (tCons (tC (.str "again")) (tCons (tVar 10) (tCons (tCall (sp_law_body n K w) [] E0 (tCons (tVar 0) (tCons (tVar 1) (tCons (tOp (rI0 fun i j => .int (i - j)) (tVar 2) (tC (.int 1))) (tCons (tC (.int 3)) tNil))))) tNil)))) tNil))) (gName 4)) (tIfS (tAnd (tTest (tOp (rI0 fun i j => .bl (decide (i < j))) (tVar 9) (tC (.int 10)))) (tTest (tOp (rI0 fun i j => .bl (decide (j < i))) (tVar 5) (tC (.int 0))))) (tSeq (tAsg (tCall (sp_law_next K w) [] E0 (tCons (tVar 0) (tCons (tCB (rLenS' K) (tCons (tVar 7) tNil)) tNil))) (gName 13))
 (tSeq (tAsg (tCB (rTupleOf K) (tCons (tLc (iRng1 (tCons (tOp (rIxL K) (tVar 7) (tVar 13)) tNil)) (gName 12) tYes (tCall (sp_law_part 4 K w) [] E0 (tCons (tVar 0) (tCons (tVar 5) (tCons (tVar 6) (tCons (tC (.int 1)) tNil))))) [12]) tNil)) (gName 14))
 (tAsg (tOp (rCatA K) (tVar 4) (tTup (tCons (tTup (tCons (tC (.str "call")) (tCons (tVar 13) (tCons (tVar 14) (tCons (tCall (sp_law_next K w) [] E0 (tCons (tVar 0) (tCons (tVar 5) tNil))) tNil))))) tNil))) (gName 4)))) (tIfS (tAnd (tTest (tOp rEq (tVar 9) (tC (.int 10)))) (tTest (tOp rEq (tCall (sp_law_next K w) [] E0 (tCons (tVar 0) (tCons (tC (.int 3)) tNil))) (tC (.int 0))))) (tAsg (tOp (rCatA K) (tVar 4) (tTup (tCons (tTup (tCons (tC (.str "return")) (tCons (tVar 10) tNil))) tNil))) (gName 4)) tNext))))))))))
 (tRet (tVar 4)))))
theorem st_f_law_body {x0 x1 x2 x3 : V} : start n_f_law_body [x0, x1, x2, x3] = [some x0, some x1, some x2, some x3, none, none, none, none, none, none, none, none, none, none, none] := rfl
theorem pu_f_law_body {K : PySem.W.Frag} {w : World} (n : Nat) (vs : List V) (H : Hp) (Q : VK) (E : XK) (h : sp_law_body (n + 1) K w vs H Q E) : t_f_law_body K w n { nx := fun _ H' => Q .non H', rt := Q } (start n_f_law_body vs) H := by
  obtain ⟨a, d, ps, pl, ns, names, cells, deep, most, params, L, rfl, hdp, hmo, hB, h0, q⟩ := h
  rw [st_f_law_body]
  unfold t_f_law_body
  walk_at "st"
  refine k_tup (K := K) h0 fun a4 H1 i1 h1 f1 => ?_
  walk_at "st"
  refine w_gTup (i1.t hB.s) rfl ?_
  walk_at "st"
  refine use_next h1 (by omega) (by omega) fun turns H2 ht i2 h2 => ?_
  walk_at "st"
  refine k_forR (PBody K H a d ps pl ns names cells deep most params L) ⟨[], a4, [], _, _, _, _, _, _, _, rfl, i1.trans i2, h2, i2.t f1, rfl, rfl, Nat.zero_le _, Nat.le_refl _⟩ (fun i σ H3 hi hP => ?_) fun σ H3 hP => ?_
  · obtain ⟨b, a4, bs, x8, x9, x10, x11, x12, x13, x14, rfl, i3, h3, f3, g3, wf3, dp3, len3⟩ := hP
    have hi : i < 100 := by omega
    have hbl : bs.length = b.length := g3.len
    walk_at "st"
    refine use_next h3 (by decide) (by decide) fun way H4 hw i4 h4 => ?_
    walk_at "st"
    refine use_next h4 (by decide) (by decide) fun dr H5 hdr i5 h5 => ?_
    walk_at "st"
    have i35 := i4.trans i5
    refine use_part h5 (by omega) hB.c0 hB.c1 hB.n1 fun pv pp H6 i6 h6 f6 wf6 dp6 => ?_
    have i36 := i35.trans i6
    have hB6 := hB.mono (i3.trans i36)
    have fin : ∀ (dd : Dd) (t : Addr) (H' : Hp) (x11 x12 x13 x14 : Option V), Imm H6 H' → Sep H' (diceA K a d ns :: L) → DdAt K H' dd (.ref t) → dd.wf names cells params = true → dd.dp ≤ deep + 4 →
        KTup (fun y H2 => rCatA K (.ref a4) y H2 (fun x H1 => gName 4 x [some (.ref d), some (.ref ps), some (.int (deep : Nat)), some (.int (most : Nat)), some (.ref a4), some (.int (names : Nat)), some (.int (cells : Nat)), some (.ref pl), some (.int (i : Nat)), some (.int (way : Nat)), some pv, x11, x12, x13, x14] H1
          (PBody K H a d ps pl ns names cells deep most params L (i + 1)))) [.ref t] H' := by
      intro dd t H7 x11 x12 x13 x14 i7 h7 f7 wf7 dp7
      refine k_tup (K := K) h7 fun p1 H8 i8 h8 f8 => ?_
      have i38 := (i36.trans i7).trans i8
      refine w_catA h8 (i38.t f3) f8 (by simp only [List.length_cons, List.length_nil]; omega) fun p2 H9 i9 h9 f9 => ?_
      walk_at "st"
      refine ⟨b ++ [dd], p2, bs ++ [.ref t], _, _, _, _, _, _, _, rfl, i3.trans (i38.trans i9), h9, f9, DdsAt.app (g3.mono (i38.trans i9)) ⟨_, _, rfl, f7.mono (i8.trans i9), rfl⟩, wfDs_app wf3 ?_, ?_, by rw [List.length_append]; exact Nat.succ_le_succ len3⟩
      · show (dd.wf names cells params && true) = true; rw [wf7]; rfl
      · rw [dpDs_app]; show max (dpDs b) (max dd.dp 0) ≤ deep + 4; omega
    walk_at "st"
    refine w_andJ (decide (0 < (names : Int))) (fun QB h => by walk_at "st"; exact h) ?_
    refine ite2 (fun c => ?_) fun c => ?_
    · have hn : 0 < names := by have := of_decide_eq_true (Bool.and_eq_true_iff.mp c).2; omega
      walk_at "st"
      refine use_next h6 (by omega) (by have := hB.n1; omega) fun k H7 hk i7 h7 => ?_
      walk_at "st"
      refine k_tup (K := K) h7 fun t H8 i8 h8 f8 => ?_
      walk_at "st"
      exact fin (.set k pp) t H8 _ _ _ _ (i7.trans i8) h8 ⟨t, _, rfl, f8, f6.mono (i7.trans i8)⟩ (by simp only [Dd.wf, wf6, Bool.and_true, decide_eq_true_eq]; omega) (by simp only [Dd.dp]; omega)
    clear c
    walk_at "st"
    refine ite2 (fun c => ?_) fun c => ?_
    · walk_at "st"
      refine use_next h6 (by have := hB.c0; omega) (by have := hB.c1; omega) fun k H7 hk i7 h7 => ?_
      walk_at "st"
      refine k_tup (K := K) h7 fun t H8 i8 h8 f8 => ?_
      walk_at "st"
      exact fin (.put k pp) t H8 _ _ _ _ (i7.trans i8) h8 ⟨t, _, rfl, f8, f6.mono (i7.trans i8)⟩ (by simp only [Dd.wf, wf6, Bool.and_true, decide_eq_true_eq]; omega) (by simp only [Dd.dp]; omega)
    walk_at "st"
    refine ite2 (fun c => ?_) fun c => ?_
    · walk_at "st"
      refine k_tup (K := K) h6 fun t H8 i8 h8 f8 => ?_
      walk_at "st"
      exact fin (.say pp) t H8 _ _ _ _ i8 h8 ⟨t, _, rfl, f8, f6.mono i8⟩ (by simp only [Dd.wf, wf6]) (by simp only [Dd.dp]; omega)
    walk_at "st"
    refine w_andJ (decide (0 < (deep : Int))) (fun QB h => by walk_at "st"; exact h) ?_
    refine ite2 (fun c => ?_) fun c => ?_
    · have hd0 : 0 < deep := by have := of_decide_eq_true (Bool.and_eq_true_iff.mp c).2; omega
      have ed : ((deep : Int) - 1) = ((deep - 1 : Nat) : Int) := by omega
      walk_at "st"
      refine k_lcR (n := 2) h6 (fun D i H => ∃ vals, Sep H (cellA D (.lst vals) :: diceA K a d ns :: L) ∧ Imm H6 H ∧ vals.length = i ∧ ∀ (j : Nat) v, vals[j]? = some v → ∃ b, BodyAt K H b v ∧ wfDs names cells params b = true ∧ dpDs b ≤ deep - 1 + 4)
        (fun D H' i7 h7 => ⟨[], h7, i7, rfl, fun j v e => by simp at e⟩) (fun D i H7 hi hP => ?_) fun D H7 hP => ?_
      · obtain ⟨vals, h7, i7, hl, hv⟩ := hP
        refine k_lcB ?_
        walk_at "st"
        refine w_yes rfl ?_
        walk_at "st"
        rw [ed]
        refine ⟨a, d, ps, pl, ns, names, cells, deep - 1, 2, params, _, rfl, by omega, by decide, hB6.mono i7, h7.swap, fun H8 v b i8 h8 f8 wf8 dp8 _ => ?_⟩
        refine k_acc h8.swap.cell (by omega) ⟨vals ++ [v], h8.swap.set rfl, i7.trans (i8.trans (h8.swap.imm rfl)), by rw [List.length_append, hl]; rfl, fun j u e => ?_⟩
        have i9 := h8.swap.imm (o' := .lst (vals ++ [v])) rfl
        by_cases hj : j < vals.length
        · rw [List.getElem?_append_left hj] at e
          obtain ⟨b', g1, g2, g3⟩ := hv j u e
          exact ⟨b', (g1.mono i8).mono i9, g2, g3⟩
        · rw [List.getElem?_append_right (by omega)] at e
          have : j - vals.length = 0 := by
            by_cases h0 : j - vals.length = 0
            · exact h0
            · rw [List.getElem?_eq_none (by simp; omega)] at e; cases e
          rw [this] at e
          cases e
          exact ⟨b, f8.mono i9, wf8, dp8⟩
      · obtain ⟨vals, h7, i7, hl, hv⟩ := hP
        obtain ⟨v0, v1, rfl⟩ : ∃ v0 v1, vals = [v0, v1] := by
          match vals, hl with
          | [v0, v1], _ => exact ⟨v0, v1, rfl⟩
        obtain ⟨b0, ⟨z0, y0, rfl, g0, k0⟩, wf0, dp0⟩ := hv 0 v0 rfl
        obtain ⟨b1, ⟨z1, y1, rfl, g1, k1⟩, wf1, dp1⟩ := hv 1 v1 rfl
        walk_at "st"
        refine w_ixL (SqL.of h7.cell) (v := .ref z0) rfl ?_
        walk_at "st"
        refine w_ixL (SqL.of h7.cell) (v := .ref z1) rfl ?_
        walk_at "st"
        refine k_tup (K := K) h7.tail fun t H8 i8 h8 f8 => ?_
        walk_at "st"
        exact fin (.iff pp b0 b1) t H8 _ _ _ _ (i7.trans i8) h8 ⟨t, _, z0, z1, y0, y1, rfl, f8, f6.mono (i7.trans i8), i8.t g0, k0.mono i8, i8.t g1, k1.mono i8⟩ (by simp only [Dd.wf, wf6, wf0, wf1]; rfl) (by simp only [Dd.dp]; omega)
    clear c
    walk_at "st"
    refine w_andJ (decide (0 < (deep : Int))) (fun QB h => by walk_at "st"; exact h) ?_
    refine ite2 (fun c => ?_) fun c => ?_
    · have hd0 : 0 < deep := by have := of_decide_eq_true (Bool.and_eq_true_iff.mp c).2; omega
      have ed : ((deep : Int) - 1) = ((deep - 1 : Nat) : Int) := by omega
      walk_at "st"
      rw [ed]
      refine ⟨a, d, ps, pl, ns, names, cells, deep - 1, 3, params, _, rfl, by omega, by decide, hB6, h6, fun H8 v b1 i8 h8 f8 wf8 dp8 _ => ?_⟩
      obtain ⟨z1, y1, rfl, g1, k1⟩ := f8
      walk_at "st"
      refine k_tup (K := K) h8 fun t H9 i9 h9 f9 => ?_
      walk_at "st"
      exact fin (.again pp b1) t H9 _ _ _ _ (i8.trans i9) h9 ⟨t, _, z1, y1, rfl, f9, f6.mono (i8.trans i9), i9.t g1, k1.mono i9⟩ (by simp only [Dd.wf, wf6, wf8]; rfl) (by simp only [Dd.dp]; omega)
    clear c
    walk_at "st"
    refine w_andJ (decide (0 < (names : Int))) (fun QB h => by walk_at "st"; exact h) ?_
    refine ite2 (fun c => ?_) fun c => ?_
    · have hn : 0 < names := by have := of_decide_eq_true (Bool.and_eq_true_iff.mp c).2; omega
      have hpl : 0 < params.length := List.length_pos_iff.mpr hB.p0
      walk_at "st"
      refine w_lenL hB6.l.l ?_
      walk_at "st"
      rw [List.length_map]
      refine use_next h6 (by omega) (by have := hB.p1; omega) fun fn H7 hfn i7 h7 => ?_
      walk_at "st"
      have hfn : fn < params.length := by omega
      have ep : params[fn]? = some params[fn] := List.getElem?_eq_getElem hfn
      have hp2 := hB.p2 _ (List.mem_of_getElem? ep)
      generalize params[fn] = pn at ep hp2
      refine w_ixL (i7.f hB6.l).l (v := .int (pn : Nat)) (atI_nat (by rw [List.getElem?_map, ep]; rfl)) ?_
      walk_at "st"
      refine k_lcR (n := ((pn : Nat) : Int).toNat) h7 (fun D i H => ∃ vals ps', Sep H (cellA D (.lst vals) :: diceA K a d ns :: L) ∧ Imm H7 H ∧ ps'.length = i ∧ PtsAt K H ps' vals ∧ wfPs names cells ps' = true ∧ dpPs ps' ≤ 2)
        (fun D H' i8 h8 => ⟨[], [], h8, i8, rfl, rfl, rfl, Nat.zero_le _⟩) (fun D i H8 hi hP => ?_) fun D H8 hP => ?_
      · obtain ⟨vals, ps', h8, i8, hl, hv, hw', hd'⟩ := hP
        refine k_lcB ?_
        walk_at "st"
        refine w_yes rfl ?_
        walk_at "st"
        refine use_part (deep := 1) h8.swap (by decide) hB.c0 hB.c1 hB.n1 fun v p H9 i9 h9 f9 wf9 dp9 => ?_
        have hvl := hv.len
        refine k_acc h9.swap.cell (by rw [Int.toNat_natCast] at hi; omega) ⟨vals ++ [v], ps' ++ [p], h9.swap.set rfl, i8.trans (i9.trans (h9.swap.imm rfl)), by rw [List.length_append, hl]; rfl, PtsAt.app (hv.mono (i9.trans (h9.swap.imm rfl))) ⟨v, [], rfl, f9.mono (h9.swap.imm rfl), rfl⟩, wfPs_app hw' ?_, ?_⟩
        · show (p.wf names cells && true) = true; rw [wf9]; rfl
        · rw [dpPs_app]; show max (dpPs ps') (max p.dp 0) ≤ 2; omega
      · obtain ⟨vals, ps', h8, i8, hl, hv, hw', hd'⟩ := hP
        rw [Int.toNat_natCast] at hl
        walk_at "st"
        refine w_tupL h8.tail (SqL.of h8.cell) fun vp H9 i9 h9 f9 => ?_
        walk_at "st"
        refine use_next h9 (by omega) (by have := hB.n1; omega) fun k H10 hk i10 h10 => ?_
        walk_at "st"
        refine k_tup (K := K) h10 fun t H11 i11 h11 f11 => ?_
        walk_at "st"
        exact fin (.call fn ps' k) t H11 _ _ _ _ (i7.trans (i8.trans (i9.trans (i10.trans i11)))) h11 ⟨t, vp, vals, rfl, f11, (i10.trans i11).t f9, hv.mono (i9.trans (i10.trans i11))⟩ (by simp only [Dd.wf, ep, hl, hw', decide_true, Bool.true_and, Bool.and_true, decide_eq_true_eq]; omega) (by simp only [Dd.dp]; omega)
    clear c
    walk_at "st"
    have same : ∀ (H' : Hp) (x11 x12 x13 x14 : Option V), Imm H6 H' → Sep H' (diceA K a d ns :: L) → PBody K H a d ps pl ns names cells deep most params L (i + 1) [some (.ref d), some (.ref ps), some (.int (deep : Nat)), some (.int (most : Nat)), some (.ref a4), some (.int (names : Nat)), some (.int (cells : Nat)), some (.ref pl), some (.int (i : Nat)), some (.int (way : Nat)), some pv, x11, x12, x13, x14] H' :=
      fun H' x11 x12 x13 x14 i7 h7 => ⟨b, a4, bs, _, _, _, _, _, _, _, rfl, i3.trans (i36.trans i7), h7, (i36.trans i7).t f3, g3.mono (i36.trans i7), wf3, dp3, Nat.le_succ_of_le len3⟩
    refine ite2 (fun c => ?_) fun c => ?_
    · walk_at "st"
      refine use_next h6 (by decide) (by decide) fun k H7 hk i7 h7 => ?_
      walk_at "st"
      refine ite2 (fun c => ?_) fun c => ?_
      · walk_at "st"
        refine k_tup (K := K) h7 fun t H8 i8 h8 f8 => ?_
        walk_at "st"
        exact fin (.ret pp) t H8 _ _ _ _ (i7.trans i8) h8 ⟨t, _, rfl, f8, f6.mono (i7.trans i8)⟩ (by simp only [Dd.wf, wf6]) (by simp only [Dd.dp]; omega)
      · walk_at "st"
        exact same _ _ _ _ _ i7 h7
    · walk_at "st"
      exact same _ _ _ _ _ (.refl _) h6
  · obtain ⟨b, a4, bs, x8, x9, x10, x11, x12, x13, x14, rfl, i3, h3, f3, g3, wf3, dp3, len3⟩ := hP
    walk_at "st"
    exact q H3 _ b i3 h3 ⟨a4, bs, rfl, f3, g3⟩ wf3 dp3 (by omega)
end SD
set_option Elab.async false
set_option linter.all false
set_option maxRecDepth 100000
set_option maxHeartbeats 4000000
namespace SD
open PySem PySem.Spec PyProof.Rows L2
local macro_rules | `(tactic| walk_at "s1") => `(tactic| first
  | with_reducible refine w_nT ?_
  | with_reducible refine w_nF ?_
  | with_reducible refine w_frzS ?_
  | with_reducible refine w_seq ?_
  | with_reducible refine w_next ?_
  | with_reducible refine w_asg ?_
  | with_reducible refine w_drop ?_
  | with_reducible refine w_ret ?_
  | with_reducible refine w_retN ?_
  | with_reducible refine w_ifs ?_
  | with_reducible refine w_par ?_
  | with_reducible refine w_c ?_
  | with_reducible refine w_nil ?_
  | with_reducible refine w_cons ?_
  | with_reducible refine w_op ?_
  | with_reducible refine w_un ?_
  | with_reducible refine w_rI0 ?_
  | with_reducible refine w_rU ?_
  | with_reducible refine w_test ?_
  | with_reducible refine w_b ?_
  | with_reducible refine w_bl ?_
  | with_reducible refine w_and ?_
  | with_reducible refine w_or ?_
  | with_reducible refine w_not ?_
  | with_reducible refine w_andV ?_
  | with_reducible refine w_orV ?_
  | with_reducible refine w_notV ?_
  | with_reducible refine w_if ?_
  | with_reducible refine w_chain ?_
  | with_reducible refine w_eqI ?_
  | with_reducible refine w_neI ?_
  | with_reducible refine w_eqS ?_
  | with_reducible refine w_neS ?_
  | with_reducible refine w_pcons ?_
  | with_reducible refine w_pnil ?_
  | with_reducible refine w_dget ?_
  | with_reducible refine w_dget2 ?_
  | with_reducible refine w_dput ?_
  | with_reducible refine w_neB ?_
  | with_reducible refine w_eqB ?_
  | with_reducible refine w_isNb ?_
  | with_reducible refine w_isNs ?_
  | with_reducible refine w_min ?_
  | with_reducible refine w_max ?_
  | with_reducible refine w_isNn ?_
  | with_reducible refine w_isNi ?_
  | with_reducible refine w_isNr ?_
  | with_reducible refine w_notNn ?_
  | with_reducible refine w_notNi ?_
  | with_reducible refine w_notNr ?_
  | with_reducible refine w_call ?_
  | with_reducible refine w_cb ?_
  | with_reducible refine w_meth ?_
  | with_reducible refine w_make ?_
  | with_reducible refine w_tup ?_
  | with_reducible refine w_lst ?_
  | with_reducible refine w_int1b ?_
  | with_reducible refine w_int1 ?_
  | with_reducible refine w_gNil ?_
  | with_reducible refine w_gCons ?_
  | with_reducible refine w_gSub ?_
  | with_reducible refine w_bm ?_
  | with_reducible refine w_sl ?_
  | with_reducible refine w_part ?_
  | with_reducible refine w_partI ?_
  | with_reducible refine w_noPart ?_
  | with_reducible refine w_for ?_
  | with_reducible refine w_lc ?_
  | with_reducible refine w_rng1 ?_
  | with_reducible refine w_iList ?_
  | with_reducible refine w_iTup ?_
  | with_reducible refine w_break ?_
  | with_reducible refine w_cont ?_
  | ((with_reducible refine' w_var ?h ?_); (case h => exact rfl))
  | ((with_reducible refine' w_gName ?h ?_); (case h => (simp only [wipe, List.set]; rfl)))
  | ((with_reducible refine' w_par2 ?h ?_); (case h => (simp only [wipe, List.set]; rfl)))
  | ((with_reducible refine' w_mod ?h ?_); (case h => omega))
  | ((with_reducible refine' w_mul ?h ?_); (case h => omega))
  | ((with_reducible refine' w_rng1I ?h ?_); (case h => omega))
  | with_reducible refine iteT ?_
  | with_reducible refine iteF ?_
  | ((with_reducible refine' iteDT ?h ?_); (case h => omega))
  | ((with_reducible refine' iteDF ?h ?_); (case h => omega))
  | ((with_reducible refine' iteNT ?h ?_); (case h => omega))
  | ((with_reducible refine' iteNF ?h ?_); (case h => omega))
  | ((with_reducible refine' iteDT ?h ?_); (case h => decide +kernel))
  | ((with_reducible refine' iteDF ?h ?_); (case h => decide +kernel))
  | ((with_reducible refine' iteNT ?h ?_); (case h => decide +kernel))
  | ((with_reducible refine' iteNF ?h ?_); (case h => decide +kernel))
  | fail "stop")
local macro_rules | `(tactic| walk_at "st") => `(tactic| (walk_at "s1"; repeat' walk_at "s1"))
/-! ### _law_program -/
def HeadsAt (K : PySem.W.Frag) (H : Hp) : List (Nat × Nat) → List V → Prop
  | [], vs => vs = []
  | x :: r, vs => ∃ a s, vs = .ref a :: s ∧ SqT K H a [.int (x.1 : Nat), .int (x.2 : Nat)] ∧ HeadsAt K H r s
section
variable {K : PySem.W.Frag} {H H' : Hp}
theorem HeadsAt.mono (i : Imm H H') : ∀ {t : List (Nat × Nat)} {v : List V}, HeadsAt K H t v → HeadsAt K H' t v
  | [], v, h => h
  | t :: r, v, ⟨a, s, e, h, h1⟩ => ⟨a, s, e, i.t h, HeadsAt.mono i h1⟩
theorem HeadsAt.len : ∀ {t : List (Nat × Nat)} {v : List V}, HeadsAt K H t v → v.length = t.length
  | [], v, h => by rw [show v = [] from h]; rfl
  | t :: r, v, ⟨a, s, e, h, h1⟩ => by rw [e, List.length_cons, List.length_cons, HeadsAt.len h1]
theorem HeadsAt.get : ∀ {t : List (Nat × Nat)} {v : List V} {i : Nat} {x : V}, HeadsAt K H t v → v[i]? = some x → ∃ a y, x = .ref a ∧ t[i]? = some y ∧ SqT K H a [.int (y.1 : Nat), .int (y.2 : Nat)]
  | [], v, i, x, h, e => by rw [show v = [] from h] at e; simp at e
  | y :: r, v, 0, x, ⟨a, s, ev, h, h1⟩, e => by rw [ev] at e; simp at e; subst e; exact ⟨a, y, rfl, rfl, h⟩
  | y :: r, v, i + 1, x, ⟨a, s, ev, h, h1⟩, e => by rw [ev] at e; exact HeadsAt.get (i := i) h1 (by simpa using e)
theorem HeadsAt.app : ∀ {p q : List (Nat × Nat)} {v u : List V}, HeadsAt K H p v → HeadsAt K H q u → HeadsAt K H (p ++ q) (v ++ u)
  | [], q, v, u, h, h2 => by rw [show v = [] from h]; exact h2
  | p :: r, q, v, u, ⟨a, t, e, h, h1⟩, h2 => ⟨a, t ++ u, by rw [e]; rfl, h, HeadsAt.app h1 h2⟩
end
structure HdOk (hs : List (Nat × Nat)) : Prop where
  h0 : ∃ n r, hs = (0, n) :: r
  le : ∀ x ∈ hs, x.1 ≤ x.2 ∧ x.2 ≤ 4
  len : hs.length ≤ 4
structure FsOk (cells : Nat) (hs : List (Nat × Nat)) (fs : List Fn) : Prop where
  hd : fs.map (fun f => (f.params, f.names)) = hs.take fs.length
  ok : ∀ f ∈ fs, wfDs f.names cells (hs.map (·.1)) f.body = true ∧ dpDs f.body ≤ 8 ∧ f.body.length ≤ 6
theorem wf_drop {n c : Nat} {ps : List Nat} : ∀ {b : List Dd}, wfDs n c ps b = true → wfDs n c ps (b.drop 1) = true
  | [], h => h
  | d :: r, h => (Bool.and_eq_true_iff.mp h).2
theorem dp_drop : ∀ {b : List Dd}, dpDs (b.drop 1) ≤ dpDs b
  | [] => Nat.le_refl _
  | d :: r => Nat.le_max_right _ _
def dropF (f : Fn) : Fn := { f with body := f.body.drop 1 }
def lenFs (fs : List Fn) : Nat := (fs.map fun f => f.body.length).sum
def szFs (fs : List Fn) : Nat := (fs.map fun f => szDs f.body).sum
theorem len_drop : ∀ fs : List Fn, lenFs (fs.map dropF) ≤ lenFs fs ∧ (0 < szFs fs → lenFs (fs.map dropF) < lenFs fs)
  | [] => ⟨Nat.le_refl _, fun h => absurd h (Nat.lt_irrefl _)⟩
  | f :: r => by
    obtain ⟨h1, h2⟩ := len_drop r
    have e1 : lenFs ((f :: r).map dropF) = (f.body.length - 1) + lenFs (r.map dropF) := by
      show (f.body.drop 1).length + lenFs (r.map dropF) = _
      rw [List.length_drop]
    have e2 : lenFs (f :: r) = f.body.length + lenFs r := rfl
    have e3 : szFs (f :: r) = szDs f.body + szFs r := rfl
    refine ⟨by omega, fun h => ?_⟩
    by_cases hb : f.body.length = 0
    · have : szDs f.body = 0 := by rw [List.length_eq_zero_iff.mp hb]; rfl
      have := h2 (by omega)
      omega
    · omega
theorem sum_ints : ∀ xs : List Nat, (xs.map fun n => ((n : Nat) : Int)).sum = ((xs.sum : Nat) : Int)
  | [] => rfl
  | x :: r => by rw [List.map_cons, List.sum_cons, List.sum_cons, sum_ints r]; omega
def sp_law_program (K : PySem.W.Frag) (w : World) : Sp := fun vs H Q _ => ∃ (a d : Addr) (ns : List Int) (L : List As), vs = [.ref d] ∧ Sep H (diceA K a d ns :: L) ∧ ∀ H' v p, Imm H H' → Sep H' (diceA K a d ns :: L) → ProgAt K H' p v → p.Wf → Q v H'
abbrev n_f_law_program : List Str := ["_law_d", "_law_cells", "_law_k", "_law_heads", "_law_names", "_law_params", "_law_head", "_law_funs", "_law_deep", "_law_body_here", "_law_fun", "_law_free", "_law_hands"]
def t_f_law_program (K : PySem.W.Frag) (w : World)  : TS :=
 (tSeq (tAsg (tTup tNil) (gName 1))
 (tSeq (tFor (iRng1 (tCons (tOp (rI0 fun i j => .int (i + j)) (tC (.int 1)) (tCall (sp_law_next K w) [] E0 (tCons (tVar 0) (tCons (tC (.int 8)) tNil)))) tNil)) (gName 2) (tAsg (tOp (rCatA K) (tVar 1) (tTup (tCons (tOp (rIxL K) (tLst (tCons (tCall (sp_law_next K w) [] E0 (tCons (tVar 0) (tCons (tC (.int 4)) tNil))) (tCons (tCall (sp_law_next K w) [] E0 (tCons (tVar 0) (tCons (tC (.int 10007)) tNil))) tNil))) (tCall (sp_law_next K w) [] E0 (tCons (tVar 0) (tCons (tC (.int 2)) tNil)))) tNil))) (gName 1)))
 (tSeq (tAsg (tLst (tCons (tTup (tCons (tC (.int 0)) (tCons (tCall (sp_law_next K w) [] E0 (tCons (tVar 0) (tCons (tC (.int 5)) tNil))) tNil))) tNil)) (gName 3))
 (tSeq (tFor (iRng1 (tCons (tCall (sp_law_next K w) [] E0 (tCons (tVar 0) (tCons (tC (.int 4)) tNil))) tNil)) (gName 2) (tSeq (tAsg (tCall (sp_law_next K w) [] E0 (tCons (tVar 0) (tCons (tC (.int 5)) tNil))) (gName 4))
 (tDrop (tBM K "list" rAppend (tVar 3) (tCons (tTup (tCons (tCall (sp_law_next K w) [] E0 (tCons (tVar 0) (tCons (tOp (rI0 fun i j => .int (i + j)) (tVar 4) (tC (.int 1))) tNil))) (tCons (tVar 4) tNil))) tNil)))))
 (tSeq (tFrzS (tAsg (tLc (iList K (tVar 3)) (gName 6) tYes (tOp (rIxT K) (tVar 6) (tC (.int 0))) [6]) (gName 5)))
 (tSeq (tAsg (tLst tNil) (gName 7))
 (tSeq (tFor (iList K (tVar 3)) (gName 6) (tSeq (tAsg (tOp (rIxL K) (tLst (tCons (tC (.int 2)) (tCons (tC (.int 2)) (tCons (tC (.int 3)) (tCons (tC (.int 4)) tNil))))) (tCall (sp_law_next K w) [] E0 (tCons (tVar 0) (tCons (tC (.int 4)) tNil)))) (gName 8))
 (tSeq (tAsg (tCall (sp_law_body 5 K w) [] E0 (tCons (tVar 0) (tCons (tTup (tCons (tOp (rIxT K) (tVar 6) (tC (.int 1))) (tCons (tCB (rLenS' K) (tCons (tVar 1) tNil)) (tCons (tVar 5) tNil)))) (tCons (tVar 8) (tCons (tOp (rIxL K) (tLst (tCons (tC (.int 3)) (tCons (tC (.int 6)) tNil))) (tCall (sp_law_next K w) [] E0 (tCons (tVar 0) (tCons (tC (.int 2)) tNil)))) tNil))))) (gName 9))
 (tDrop (tBM K "list" rAppend (tVar 7) (tCons (tTup (tCons (tOp (rIxT K) (tVar 6) (tC (.int 0))) (tCons (tOp (rIxT K) (tVar 6) (tC (.int 1))) (tCons (tVar 9) tNil)))) tNil))))))
 (tSeq (tWhile (tTest (tOp (rI0 fun i j => .bl (decide (j < i))) (tCB (rSum K) (tCons (tLc (iList K (tVar 7)) (gName 10) tYes (tCall (sp_law_count 20 K w) [] E0 (tCons (tOp (rIxT K) (tVar 10) (tC (.int 2))) tNil)) [10]) tNil)) (tC (.int 100)))) (tAsg (tLc (iList K (tVar 7)) (gName 10) tYes (tTup (tCons (tOp (rIxT K) (tVar 10) (tC (.int 0))) (tCons (tOp (rIxT K) (tVar 10) (tC (.int 1))) (tCons (tSl (rSlA K) (tOp (rIxT K) (tVar 10) (tC (.int 2))) (tPart (tC (.int 1))) tNoPart) tNil)))) [10]) (gName 7)))
 (tSeq (tAsg (tLc (iRng1 (tCons (tCB (rLenS' K) (tCons (tVar 3) tNil)) tNil)) (gName 2) (tTest (tOp rEq (tOp (rIxL K) (tVar 5) (tVar 2)) (tC (.int 0)))) (tVar 2) [2]) (gName 11))
 (tSeq (tAsg (tCB (rTupleOf K) (tCons (tLc (iRng1 (tCons (tOp (rI0 fun i j => .int (i + j)) (tC (.int 1)) (tCall (sp_law_next K w) [] E0 (tCons (tVar 0) (tCons (tC (.int 3)) tNil)))) tNil)) (gName 2) tYes (tOp (rIxL K) (tVar 11) (tCall (sp_law_next K w) [] E0 (tCons (tVar 0) (tCons (tCB (rLenS' K) (tCons (tVar 11) tNil)) tNil)))) [2]) tNil)) (gName 12))
 (tRet (tTup (tCons (tVar 1) (tCons (tCB (rTupleOf K) (tCons (tVar 7) tNil)) (tCons (tVar 12) tNil)))))))))))))))
theorem st_f_law_program {x0 : V} : start n_f_law_program [x0] = [some x0, none, none, none, none, none, none, none, none, none, none, none, none] := rfl
theorem pu_f_law_program {K : PySem.W.Frag} {w : World} (vs : List V) (H : Hp) (Q : VK) (E : XK) (h : sp_law_program K w vs H Q E) : t_f_law_program K w { nx := fun _ H' => Q .non H', rt := Q } (start n_f_law_program vs) H := by
  obtain ⟨a, d, ns, L, rfl, h0, q⟩ := h
  rw [st_f_law_program]
  unfold t_f_law_program
  walk_at "st"
  -- cells
  refine k_tup (K := K) h0 fun c0 H1 i1 h1 f1 => ?_
  walk_at "st"
  refine use_next h1 (by decide) (by decide) fun nc H2 hnc i2 h2 => ?_
  walk_at "st"
  refine k_forR (n := (1 + (nc : Int)).toNat) (fun i σ H3 => ∃ c x2 cs, σ = [some (.ref d), some (.ref c), x2, none, none, none, none, none, none, none, none, none, none] ∧ Imm H H3 ∧ Sep H3 (diceA K a d ns :: L) ∧ SqT K H3 c ((cs : List Int).map V.int) ∧ cs.length = i ∧ ∀ x ∈ cs, 0 ≤ x ∧ x < 10007)
    ⟨c0, _, [], rfl, i1.trans i2, h2, i2.t f1, rfl, fun x hx => by cases hx⟩ (fun i σ H3 hi hP => ?_) fun σ H3 hP => ?_
  · obtain ⟨c, x2, cs, rfl, i3, h3, f3, hl, hr⟩ := hP
    walk_at "st"
    refine use_next h3 (by decide) (by decide) fun r1 H4 hr1 i4 h4 => ?_
    walk_at "st"
    refine use_next h4 (by decide) (by decide) fun r2 H5 hr2 i5 h5 => ?_
    walk_at "st"
    refine k_lst h5 fun l1 H6 i6 h6 => ?_
    walk_at "st"
    refine use_next h6.swap (by decide) (by decide) fun r3 H7 hr3 i7 h7 => ?_
    obtain ⟨num, hnum, hn0⟩ : ∃ num : Nat, atI [V.int (r1 : Nat), V.int (r2 : Nat)] ((r3 : Nat) : Int) = some (.int (num : Nat)) ∧ num < 10007 := by
      have : r3 = 0 ∨ r3 = 1 := by omega
      rcases this with rfl | rfl
      · exact ⟨r1, rfl, by omega⟩
      · exact ⟨r2, rfl, by omega⟩
    refine w_ixL (SqL.of h7.swap.cell) hnum ?_
    walk_at "st"
    refine k_tup (K := K) (h7.pull 0 rfl) fun p1 H8 i8 h8 f8 => ?_
    have i38 := i4.trans (i5.trans (i6.trans (i7.trans i8)))
    refine w_catA h8 (i38.t f3) f8 (by simp only [List.length_cons, List.length_nil, List.length_map]; omega) fun c2 H9 i9 h9 f9 => ?_
    walk_at "st"
    refine ⟨c2, _, cs ++ [((num : Nat) : Int)], rfl, i3.trans (i38.trans i9), (h9.swap.tail : Sep H9 (diceA K a d ns :: L)), by rw [List.map_append]; exact f9, by rw [List.length_append, hl]; rfl, fun x hx => ?_⟩
    rcases List.mem_append.mp hx with hx | hx
    · exact hr x hx
    · rw [List.mem_singleton.mp hx]; omega
  obtain ⟨c, x2, cs, rfl, i3, h3, f3, hl, hr⟩ := hP
  have hcl : 1 ≤ cs.length ∧ cs.length ≤ 8 := by omega
  clear hl hnc f1 h1 h2 i1 i2
  -- heads
  walk_at "st"
  refine use_next h3 (by decide) (by decide) fun r1 H4 hr1 i4 h4 => ?_
  walk_at "st"
  refine k_tup (K := K) h4 fun p1 H5 i5 h5 f5 => ?_
  walk_at "st"
  refine k_lst h5 fun hl H6 i6 h6 => ?_
  walk_at "st"
  refine use_next h6.swap (by decide) (by decide) fun nh H7 hnh i7 h7 => ?_
  walk_at "st"
  have i37 := i4.trans (i5.trans (i6.trans i7))
  refine k_forR (n := ((nh : Nat) : Int).toNat) (fun i σ H8 => ∃ x2 x4 hs vals, σ = [some (.ref d), some (.ref c), x2, some (.ref hl), x4, none, none, none, none, none, none, none, none] ∧ Imm H3 H8 ∧ Sep H8 (diceA K a d ns :: cellA hl (.lst vals) :: L) ∧ HeadsAt K H8 hs vals ∧ (∃ n r, hs = (0, n) :: r) ∧ (∀ x ∈ hs, x.1 ≤ x.2 ∧ x.2 ≤ 4) ∧ hs.length = 1 + i)
    ⟨_, _, [(0, r1)], [.ref p1], rfl, i37, h7, ⟨p1, [], rfl, (i6.trans i7).t f5, rfl⟩, ⟨r1, [], rfl⟩, fun x hx => by rw [List.mem_singleton.mp hx]; exact ⟨Nat.zero_le _, by show r1 ≤ 4; omega⟩, rfl⟩ (fun i σ H8 hi hP => ?_) fun σ H8 hP => ?_
  · obtain ⟨x2, x4, hs, vals, rfl, i8, h8, g8, ⟨n0, r0, e0⟩, le8, len8⟩ := hP
    have hvl := g8.len
    walk_at "st"
    refine use_next h8 (by decide) (by decide) fun nm H9 hnm i9 h9 => ?_
    walk_at "st"
    refine w_tyL (SqL.of h9.swap.cell) ?_
    walk_at "st"
    refine use_next h9 (by omega) (by omega) fun pr H10 hpr i10 h10 => ?_
    walk_at "st"
    refine k_tup (K := K) h10 fun t H11 i11 h11 f11 => ?_
    walk_at "st"
    refine w_append h11.swap.cell (by omega) ?_
    have h12 := h11.swap.set (o' := .lst (vals ++ [.ref t])) rfl
    have i12 := h11.swap.imm (o' := .lst (vals ++ [.ref t])) rfl
    refine ⟨_, _, hs ++ [(pr, nm)], vals ++ [.ref t], rfl, i8.trans (i9.trans (i10.trans (i11.trans i12))), h12.swap, HeadsAt.app (g8.mono (i9.trans (i10.trans (i11.trans i12)))) ⟨t, [], rfl, i12.t f11, rfl⟩, ⟨n0, r0 ++ [(pr, nm)], by rw [e0]; rfl⟩, fun x hx => ?_, by rw [List.length_append, len8]; rfl⟩
    rcases List.mem_append.mp hx with hx | hx
    · exact le8 x hx
    · rw [List.mem_singleton.mp hx]; exact ⟨by show pr ≤ nm; omega, by show nm ≤ 4; omega⟩
  obtain ⟨x2, x4, hs, vals, rfl, i8, h8, g8, e0, le8, len8⟩ := hP
  have ho : HdOk hs := ⟨e0, le8, by omega⟩
  have hvl := g8.len
  have f8 := i8.t f3
  replace i8 := i3.trans i8
  clear i37 i4 i5 i6 i7 h4 h5 h6 h7 f5 h3 i3 f3 e0 le8 len8 hr1 hnh
  -- params
  walk_at "st"
  refine w_itl (SqL.of h8.swap.cell) ?_
  refine k_lcL h8 (fun D i H9 => Imm H8 H9 ∧ Sep H9 (cellA D (.lst ((hs.take i).map fun x => V.int (x.1 : Nat))) :: diceA K a d ns :: cellA hl (.lst vals) :: L)) (fun D H9 i9 h9 => ⟨i9, h9⟩) (fun D i H9 _ hP => SqL.of (hP.2.pull 2 rfl).cell) (fun D i x H9 hi hx hP => ?_) fun D H9 hP => ?_
  · obtain ⟨i9, h9⟩ := hP
    obtain ⟨t, y, rfl, ey, ft⟩ := (g8.mono i9).get hx
    refine k_lcB ?_
    walk_at "st"
    refine w_yes rfl ?_
    walk_at "st"
    refine w_ixT ft (v := .int (y.1 : Nat)) rfl ?_
    refine k_acc h9.cell (by rw [List.length_map, List.length_take]; have := ho.len; omega) ⟨i9.trans (h9.imm rfl), ?_⟩
    rw [take_snoc ey, List.map_append]
    exact h9.set rfl
  obtain ⟨i9, h9⟩ := hP
  rw [hvl, List.take_length] at h9
  walk_at "st"
  refine k_frz (K := K) h9 fun H10 i10 h10 f10 => ?_
  have f10 : SqF K H10 D ((hs.map (·.1)).map fun n => V.int (n : Nat)) := by rw [List.map_map]; exact f10
  have g10 := g8.mono (i9.trans i10)
  have fc10 := (i9.trans i10).t f8
  replace i10 := i8.trans (i9.trans i10)
  clear i8 i9 h8 h9 g8 f8
  -- funs
  walk_at "st"
  refine k_lst h10 fun fl H11 i11 h11 => ?_
  walk_at "st"
  refine w_itl (SqL.of (h11.pull 2 rfl).cell) ?_
  refine k_forL (xs := vals) (fun i σ H12 => ∃ x6 x8 x9 fs fv, σ = [some (.ref d), some (.ref c), x2, some (.ref hl), x4, some (.ref D), x6, some (.ref fl), x8, x9, none, none, none] ∧ Imm H10 H12 ∧ Sep H12 (diceA K a d ns :: cellA fl (.lst fv) :: cellA hl (.lst vals) :: L) ∧ FnsAt K H12 fs fv ∧ FsOk cs.length hs fs ∧ fs.length = i)
    ⟨_, _, _, [], [], rfl, i11, h11.swap, rfl, ⟨rfl, fun f hf => by cases hf⟩, rfl⟩ (fun i σ H12 _ hP => by obtain ⟨x6, x8, x9, fs, fv, rfl, i12, h12, _⟩ := hP; exact SqL.of (h12.pull 2 rfl).cell) (fun i x σ H12 hi hx hP => ?_) fun σ H12 hP => ?_
  · obtain ⟨x6, x8, x9, fs, fv, rfl, i12, h12, g12, o12, len12⟩ := hP
    obtain ⟨t, y, rfl, ey, ft⟩ := (g10.mono i12).get hx
    obtain ⟨hy1, hy2⟩ := ho.le y (List.mem_of_getElem? ey)
    have hfl := g12.len
    have hhl := ho.len
    walk_at "st"
    refine k_lst h12 fun l1 H13 i13 h13 => ?_
    walk_at "st"
    refine use_next h13.swap (by decide) (by decide) fun r1 H14 hr1 i14 h14 => ?_
    obtain ⟨dd, hdd, hdd4⟩ : ∃ dd : Nat, atI [V.int 2, V.int 2, V.int 3, V.int 4] ((r1 : Nat) : Int) = some (.int (dd : Nat)) ∧ dd ≤ 4 := by
      have : r1 = 0 ∨ r1 = 1 ∨ r1 = 2 ∨ r1 = 3 := by omega
      rcases this with rfl | rfl | rfl | rfl
      · exact ⟨2, rfl, by decide⟩
      · exact ⟨2, rfl, by decide⟩
      · exact ⟨3, rfl, by decide⟩
      · exact ⟨4, rfl, by decide⟩
    refine w_ixL (SqL.of h14.swap.cell) hdd ?_
    have h14 : Sep H14 (diceA K a d ns :: cellA fl (.lst fv) :: cellA hl (.lst vals) :: L) := h14.swap.tail
    walk_at "st"
    refine w_ixT ((i13.trans i14).t ft) (v := .int (y.2 : Nat)) rfl ?_
    walk_at "st"
    refine w_lenT ((i12.trans (i13.trans i14)).t fc10) ?_
    walk_at "st"
    rw [List.length_map]
    refine k_tup (K := K) h14 fun s H15 i15 h15 f15 => ?_
    walk_at "st"
    refine k_lst h15 fun l2 H16 i16 h16 => ?_
    walk_at "st"
    refine use_next h16.swap (by decide) (by decide) fun r2 H17 hr2 i17 h17 => ?_
    obtain ⟨mo, hmo, hmo6⟩ : ∃ mo : Nat, atI [V.int 3, V.int 6] ((r2 : Nat) : Int) = some (.int (mo : Nat)) ∧ mo ≤ 6 := by
      have : r2 = 0 ∨ r2 = 1 := by omega
      rcases this with rfl | rfl
      · exact ⟨3, rfl, by decide⟩
      · exact ⟨6, rfl, by decide⟩
    refine w_ixL (SqL.of h17.swap.cell) hmo ?_
    have h17 : Sep H17 (diceA K a d ns :: cellA fl (.lst fv) :: cellA hl (.lst vals) :: L) := h17.swap.tail
    walk_at "st"
    have i1217 := i13.trans (i14.trans (i15.trans (i16.trans i17)))
    refine ⟨a, d, s, D, ns, y.2, cs.length, dd, mo, hs.map (·.1), _, rfl, by omega, by omega, ⟨by omega, by omega, by omega, ?_, by rw [List.length_map]; omega, fun p hp => ?_, (i16.trans i17).t f15, (i12.trans i1217).f f10⟩, h17, fun H18 v b i18 h18 f18 wf18 dp18 len18 => ?_⟩
    · obtain ⟨n0, r0, e⟩ := ho.h0; rw [e]; exact fun h => by cases h
    · obtain ⟨z, hz, rfl⟩ := List.mem_map.mp hp
      have := ho.le z hz; omega
    walk_at "st"
    refine w_tyL (SqL.of h18.swap.cell) ?_
    walk_at "st"
    have ft18 := (i1217.trans i18).t ft
    refine w_ixT ft18 (v := .int (y.1 : Nat)) rfl ?_
    walk_at "st"
    refine w_ixT ft18 (v := .int (y.2 : Nat)) rfl ?_
    walk_at "st"
    refine k_tup (K := K) h18 fun p H19 i19 h19 f19 => ?_
    walk_at "st"
    refine w_append h19.swap.cell (by omega) ?_
    have h20 := h19.swap.set (o' := .lst (fv ++ [.ref p])) rfl
    have i20 := h19.swap.imm (o' := .lst (fv ++ [.ref p])) rfl
    have i1220 := i1217.trans (i18.trans (i19.trans i20))
    refine ⟨_, _, _, fs ++ [⟨y.1, y.2, b⟩], fv ++ [.ref p], rfl, i12.trans i1220, h20.swap, FnsAt.app (g12.mono i1220) ⟨_, [], rfl, ⟨p, v, rfl, i20.t f19, f18.mono (i19.trans i20)⟩, rfl⟩, ⟨?_, fun f hf => ?_⟩, by rw [List.length_append, len12]; rfl⟩
    · rw [List.map_append, o12.hd, List.length_append, len12, show i + [(⟨y.1, y.2, b⟩ : Fn)].length = i + 1 from rfl, take_snoc ey]; rfl
    · rcases List.mem_append.mp hf with hf | hf
      · exact o12.ok f hf
      · rw [List.mem_singleton.mp hf]; exact ⟨wf18, by show dpDs b ≤ 8; omega, by show b.length ≤ 6; omega⟩
  obtain ⟨x6, x8, x9, fs, fv, rfl, i12, h12, g12, o12, len12⟩ := hP
  rw [hvl] at len12
  -- while too many
  walk_at "st"
  refine w_while (fun m σ H13 => ∃ fl fs fv, m = lenFs fs ∧ σ = [some (.ref d), some (.ref c), x2, some (.ref hl), x4, some (.ref D), x6, some (.ref fl), x8, x9, none, none, none] ∧ Imm H10 H13 ∧ Sep H13 (cellA fl (.lst fv) :: diceA K a d ns :: cellA hl (.lst vals) :: L) ∧ FnsAt K H13 fs fv ∧ FsOk cs.length hs fs ∧ fs.length = hs.length)
    (lenFs fs) ⟨fl, fs, fv, rfl, rfl, i12, h12.swap, g12, o12, len12⟩ ?_
  clear i12 h12 g12 o12 len12 fs fv fl i11 h11
  rintro m σ H13 ⟨fl, fs, fv, rfl, rfl, i13, h13, g13, o13, len13⟩
  have hfl := g13.len
  have hhl := ho.len
  walk_at "st"
  refine w_itl (SqL.of h13.cell) ?_
  refine k_lcL h13 (fun D' i H14 => Imm H13 H14 ∧ Sep H14 (cellA D' (.lst ((((fs.map fun f => szDs f.body).take i).map fun n => ((n : Nat) : Int)).map V.int)) :: cellA fl (.lst fv) :: diceA K a d ns :: cellA hl (.lst vals) :: L)) (fun D' H14 i14 h14 => ⟨i14, by simpa using h14⟩) (fun D' i H14 _ hP => SqL.of hP.2.swap.cell) (fun D' i x H14 hi hx hP => ?_) fun D' H14 hP => ?_
  · obtain ⟨i14, h14⟩ := hP
    obtain ⟨f, ef, t, vb, rfl, ft, b, bs, rfl, fb, gb⟩ := (g13.mono i14).get hx
    obtain ⟨_, dpf, _⟩ := o13.ok f (List.mem_of_getElem? ef)
    refine k_lcB ?_
    walk_at "st"
    refine w_yes rfl ?_
    walk_at "st"
    refine w_ixT ft (v := .ref b) rfl ?_
    walk_at "st"
    refine use_count h14 fb gb dpf fun H15 i15 h15 => ?_
    refine k_acc h15.cell (by rw [List.length_map, List.length_map, List.length_take, List.length_map]; omega) ⟨i14.trans (i15.trans (h15.imm rfl)), ?_⟩
    rw [take_snoc (x := szDs f.body) (by rw [List.getElem?_map, ef]; rfl), List.map_append, List.map_append]
    exact h15.set rfl
  obtain ⟨i14, h14⟩ := hP
  rw [List.take_of_length_le (by rw [List.length_map]; omega)] at h14
  refine ⟨D', _, rfl, SqL.of h14.cell, ?_⟩
  rw [sum_ints]
  have h15 := h14.tail
  have g15 := g13.mono i14
  replace i14 := i13.trans i14
  clear h14 h13 g13 i13
  walk_at "st"
  rcases Nat.lt_or_ge 100 (fs.map fun f => szDs f.body).sum with hbig | hsm
  · rw [decide_eq_true (by omega)]
    refine k_turn ?_
    walk_at "st"
    refine w_itl (SqL.of h15.cell) ?_
    refine k_lcL h15 (fun D2 i H16 => ∃ fv2, Imm H14 H16 ∧ Sep H16 (cellA D2 (.lst fv2) :: cellA fl (.lst fv) :: diceA K a d ns :: cellA hl (.lst vals) :: L) ∧ FnsAt K H16 ((fs.take i).map dropF) fv2) (fun D2 H16 i16 h16 => ⟨[], i16, h16, rfl⟩) (fun D2 i H16 _ hP => by obtain ⟨_, _, h, _⟩ := hP; exact SqL.of h.swap.cell) (fun D2 i x H16 hi hx hP => ?_) fun D2 H16 hP => ?_
    · obtain ⟨fv2, i16, h16, g16⟩ := hP
      obtain ⟨f, ef, t, vb, rfl, ft, b, bs, rfl, fb, gb⟩ := (g15.mono i16).get hx
      have hl2 := g16.len
      refine k_lcB ?_
      walk_at "st"
      refine w_yes rfl ?_
      walk_at "st"
      refine w_ixT ft (v := .int (f.params : Nat)) rfl ?_
      walk_at "st"
      refine w_ixT ft (v := .int (f.names : Nat)) rfl ?_
      walk_at "st"
      refine w_ixT ft (v := .ref b) rfl ?_
      walk_at "st"
      refine w_slA h16 fb fun r H17 i17 h17 f17 => ?_
      rw [cut1] at f17
      walk_at "st"
      refine k_tup (K := K) h17 fun p H18 i18 h18 f18 => ?_
      have i19 := h18.imm (o' := .lst (fv2 ++ [.ref p])) rfl
      have gb' : DdsAt K H16 (f.body.drop 1) (bs.drop 1) := by
        cases hb : f.body with
        | nil => rw [hb] at gb; rw [show bs = [] from gb]; rfl
        | cons y r => rw [hb] at gb; obtain ⟨v, t', e1, e2, e3⟩ := gb; rw [e1]; exact e3
      refine k_acc h18.cell (by rw [hl2, List.length_map, List.length_take]; omega) ⟨fv2 ++ [.ref p], i16.trans (i17.trans (i18.trans i19)), h18.set rfl, ?_⟩
      rw [take_snoc ef, List.map_append]
      exact FnsAt.app (g16.mono (i17.trans (i18.trans i19))) ⟨_, [], rfl, ⟨p, .ref r, rfl, i19.t f18, r, _, rfl, (i18.trans i19).t f17, gb'.mono (i17.trans (i18.trans i19))⟩, rfl⟩
    · obtain ⟨fv2, i16, h16, g16⟩ := hP
      rw [hfl, List.take_length] at g16
      walk_at "st"
      have hm := (len_drop fs).2 (by show 0 < (fs.map fun f => szDs f.body).sum; omega)
      refine ⟨lenFs (fs.map dropF), hm, D2, fs.map dropF, fv2, rfl, rfl, i14.trans i16, h16.swap.tail.perm (.refl _) |> fun z => (h16.pull 0 rfl).swap.tail.perm (.refl _) |> fun _ => (h16.swap.tail), g16, ⟨?_, fun f hf => ?_⟩, by rw [List.length_map]; exact len13⟩
      · rw [List.map_map, List.length_map]; exact o13.hd
      · obtain ⟨f', hf', rfl⟩ := List.mem_map.mp hf
        obtain ⟨k1, k2, k3⟩ := o13.ok f' hf'
        exact ⟨wf_drop k1, Nat.le_trans dp_drop k2, by show (f'.body.drop 1).length ≤ 6; rw [List.length_drop]; omega⟩
  rw [decide_eq_false (by omega)]
  refine k_done ?_
  have hd : fs.map (fun f => (f.params, f.names)) = hs := by rw [o13.hd, len13, List.take_length]
  have hps : fs.map Fn.params = hs.map (·.1) := by rw [← hd, List.map_map]; rfl
  have f16 := i14.f f10
  have fc16 := i14.t fc10
  -- free
  walk_at "st"
  refine w_lenL (SqL.of (h15.pull 2 rfl).cell) ?_
  walk_at "st"
  rw [hvl]
  refine k_lcR (n := ((hs.length : Nat) : Int).toNat) h15 (fun D2 i H16 => Imm H14 H16 ∧ Sep H16 (cellA D2 (.lst (((List.range i).filter fun k => decide ((hs.map (·.1))[k]? = some 0)).map fun n => V.int (n : Nat))) :: cellA fl (.lst fv) :: diceA K a d ns :: cellA hl (.lst vals) :: L)) (fun D2 H16 i16 h16 => ⟨i16, h16⟩) (fun D2 i H16 hi hP => ?_) fun D2 H16 hP => ?_
  · obtain ⟨i16, h16⟩ := hP
    rw [Int.toNat_natCast] at hi
    refine k_lcB ?_
    walk_at "st"
    refine ⟨rfl, ?_⟩
    have hi2 : i < (hs.map (·.1)).length := by rw [List.length_map]; exact hi
    have ek : (hs.map (·.1))[i]? = some ((hs.map (·.1))[i]) := List.getElem?_eq_getElem hi2
    generalize (hs.map (·.1))[i] = z at ek
    walk_at "st"
    refine w_ixL (i16.f f16).l (v := .int (z : Nat)) (atI_nat (by rw [List.getElem?_map, ek]; rfl)) ?_
    walk_at "st"
    have hsn : ((List.range (i + 1)).filter fun k => decide ((hs.map (·.1))[k]? = some 0)) = ((List.range i).filter fun k => decide ((hs.map (·.1))[k]? = some 0)) ++ (if z = 0 then [i] else []) := by
      rw [List.range_succ, List.filter_append]
      congr 1
      by_cases hz : z = 0
      · rw [if_pos hz]; simp [ek, hz]
      · rw [if_neg hz]; simp [ek, hz]
    by_cases hz : z = 0
    · rw [decide_eq_true (by omega)]
      walk_at "st"
      have hlen : ((List.range i).filter fun k => decide ((hs.map (·.1))[k]? = some 0)).length ≤ i := Nat.le_trans (List.length_filter_le _ _) (by rw [List.length_range]; exact Nat.le_refl _)
      refine k_acc h16.cell (by rw [List.length_map]; omega) ⟨i16.trans (h16.imm rfl), ?_⟩
      rw [hsn, if_pos hz, List.map_append]
      exact h16.set rfl
    · rw [decide_eq_false (by omega)]
      walk_at "st"
      rw [hsn, if_neg hz, List.append_nil]
      exact ⟨i16, h16⟩
  obtain ⟨i16, h16⟩ := hP
  rw [Int.toNat_natCast] at h16
  have hfree : ∀ k ∈ ((List.range hs.length).filter fun k => decide ((hs.map (·.1))[k]? = some 0)), (hs.map (·.1))[k]? = some 0 := fun k hk => of_decide_eq_true (List.mem_filter.mp hk).2
  have hfl2 : ((List.range hs.length).filter fun k => decide ((hs.map (·.1))[k]? = some 0)).length ≤ 4 := Nat.le_trans (List.length_filter_le _ _) (by rw [List.length_range]; exact hhl)
  have hf0 : 0 < ((List.range hs.length).filter fun k => decide ((hs.map (·.1))[k]? = some 0)).length := by
    obtain ⟨n0, r0, e⟩ := ho.h0
    refine List.length_pos_of_mem (a := 0) (List.mem_filter.mpr ⟨?_, ?_⟩)
    · rw [e, List.mem_range]; exact Nat.succ_pos _
    · rw [e]; rfl
  generalize ((List.range hs.length).filter fun k => decide ((hs.map (·.1))[k]? = some 0)) = free at h16 hfree hfl2 hf0
  -- hands
  walk_at "st"
  refine use_next (h16.pull 2 rfl) (by decide) (by decide) fun nh H17 hnh i17 h17 => ?_
  walk_at "st"
  have h17 : Sep H17 (diceA K a d ns :: cellA D2 (.lst (free.map fun n => V.int (n : Nat))) :: cellA fl (.lst fv) :: cellA hl (.lst vals) :: L) := h17
  refine k_lcR (n := (1 + (nh : Int)).toNat) h17 (fun D3 i H18 => ∃ hh : List Nat, Imm H17 H18 ∧ Sep H18 (cellA D3 (.lst (hh.map fun n => V.int (n : Nat))) :: diceA K a d ns :: cellA D2 (.lst (free.map fun n => V.int (n : Nat))) :: cellA fl (.lst fv) :: cellA hl (.lst vals) :: L) ∧ hh.length = i ∧ ∀ k ∈ hh, (hs.map (·.1))[k]? = some 0)
    (fun D3 H18 i18 h18 => ⟨[], i18, h18, rfl, fun k hk => by cases hk⟩) (fun D3 i H18 hi hP => ?_) fun D3 H18 hP => ?_
  · obtain ⟨hh, i18, h18, hl18, hk18⟩ := hP
    refine k_lcB ?_
    walk_at "st"
    refine w_yes rfl ?_
    walk_at "st"
    refine w_lenL (SqL.of (h18.pull 2 rfl).cell) ?_
    walk_at "st"
    rw [List.length_map]
    refine use_next h18.swap (by omega) (by omega) fun r H19 hr i19 h19 => ?_
    have hr : r < free.length := by omega
    have er : free[r]? = some free[r] := List.getElem?_eq_getElem hr
    have hmem := hfree _ (List.mem_of_getElem? er)
    generalize free[r] = z at er hmem
    refine w_ixL (SqL.of (h19.pull 2 rfl).cell) (v := .int (z : Nat)) (atI_nat (by rw [List.getElem?_map, er]; rfl)) ?_
    refine k_acc h19.swap.cell (by rw [List.length_map]; omega) ⟨hh ++ [z], i18.trans (i19.trans (h19.swap.imm rfl)), by rw [List.map_append]; exact h19.swap.set rfl, by rw [List.length_append, hl18]; rfl, fun k hk => ?_⟩
    rcases List.mem_append.mp hk with hk | hk
    · exact hk18 k hk
    · rw [List.mem_singleton.mp hk]; exact hmem
  obtain ⟨hh, i18, h18, hl18, hk18⟩ := hP
  walk_at "st"
  refine w_tupL (h18.tail) (SqL.of h18.cell) fun th H19 i19 h19 f19 => ?_
  walk_at "st"
  refine w_tupL h19 (SqL.of (h19.pull 2 rfl).cell) fun tf H20 i20 h20 f20 => ?_
  walk_at "st"
  refine k_tup (K := K) h20 fun tp H21 i21 h21 f21 => ?_
  have i1621 := i17.trans (i18.trans (i19.trans (i20.trans i21)))
  have h22 : Sep H21 (diceA K a d ns :: L) := h21.swap.tail.swap.tail.swap.tail
  refine q H21 _ ⟨cs, fs, hh⟩ (i10.trans (i14.trans (i16.trans i1621))) h22 ⟨tp, c, tf, th, fv, rfl, f21, (i16.trans i1621).t fc16, i21.t f20, g15.mono (i16.trans i1621), (i20.trans i21).t f19⟩ ?_
  have hpp : (⟨cs, fs, hh⟩ : Prog).params = hs.map (·.1) := hps
  have hfs : fs.length ≤ 4 ∧ 1 ≤ fs.length := by
    obtain ⟨n0, r0, e⟩ := ho.h0
    have : 1 ≤ hs.length := by rw [e]; exact Nat.succ_pos _
    omega
  refine ⟨hcl.1, hcl.2, hr, hfs.2, hfs.1, fun f hf => ?_, by show 1 ≤ hh.length; omega, by show hh.length ≤ 3; omega, fun k hk => by rw [hpp]; exact hk18 k hk, fun f hf => by rw [hpp]; exact (o13.ok f hf).1, fun f hf => (o13.ok f hf).2.1, hsm⟩
  have : (f.params, f.names) ∈ hs := by rw [← hd]; exact List.mem_map.mpr ⟨f, hf, rfl⟩
  exact ho.le _ this
end SD
set_option Elab.async false
set_option linter.all false
set_option maxRecDepth 100000
set_option maxHeartbeats 4000000
namespace SD
open PySem PySem.Spec PyProof.Rows L2
theorem use_program {K : PySem.W.Frag} {w : World} {H : Hp} {L : List As} {Q : VK} {E : XK} {a d : Addr} {ns : List Int} (h : Sep H (diceA K a d ns :: L)) (q : ∀ v p H', Imm H H' → Sep H' (diceA K a d ns :: L) → ProgAt K H' p v → p.Wf → Q v H') : sp_law_program K w [.ref d] H Q E :=
  ⟨a, d, ns, L, rfl, h, fun H' v p i h' f W => q v p H' i h' f W⟩
end SD
set_option Elab.async false
set_option linter.all false
set_option maxRecDepth 100000
set_option maxHeartbeats 4000000
namespace SD
open PySem PySem.Spec PyProof.Rows L2
/-! ### nested lists that are held, as data -/
theorem take_filterMap {α : Type} (L : List α) : ∀ n : Nat, (List.range n).filterMap (fun i => L[i]?) = L.take n
  | 0 => rfl
  | n + 1 => by
    rw [List.range_succ, List.filterMap_append, take_filterMap L n, List.take_add_one]
    congr 1
/-- in another order: of the first n those at is -/
theorem Sep.sel {H : Hp} {L : List As} (h : Sep H L) (n : Nat) (is : List Nat) (p : is.Perm (List.range n) := by decide) : Sep H (is.filterMap (fun i => L[i]?) ++ L.drop n) := by
  refine h.perm ?_
  have e : L = (List.range n).filterMap (fun i => L[i]?) ++ L.drop n := by rw [take_filterMap, List.take_append_drop]
  exact (List.Perm.of_eq e).trans ((p.symm.filterMap _).append_right _)
theorem Sep.merge {H : Hp} {L : List As} {A B C : As} (s : Sep H (A :: B :: L)) (h : ∀ c1 c2, A.p c1 H → B.p c2 H → C.p (c1 ++ c2) H) : Sep H (C :: L) := by
  obtain ⟨c, h1, c1, c2, rfl, a, c3, c4, rfl, b, r⟩ := s
  exact ⟨_, h1, c1 ++ c3, c4, by rw [List.append_assoc], h c1 c3 a b, r⟩
theorem Sep.map1 {H : Hp} {L : List As} {A C : As} (s : Sep H (A :: L)) (h : ∀ c, A.p c H → C.p c H) : Sep H (C :: L) := by
  obtain ⟨c, h1, c1, c2, rfl, a, r⟩ := s
  exact ⟨_, h1, c1, c2, rfl, h c1 a, r⟩
def datA (K : PySem.W.Frag) (v : V) (d : PyData) : As := ⟨fun c H => ∀ H1, Holds H1 c → Imm H H1 → Dp K H1 v d, fun i h H1 hh i1 => h H1 hh (i.trans i1)⟩
def datsA (K : PySem.W.Frag) (vs : List V) (ds : List PyData) : As := ⟨fun c H => ∀ H1, Holds H1 c → Imm H H1 → DpAll K H1 vs ds, fun i h H1 hh i1 => h H1 hh (i.trans i1)⟩
section
variable {K : PySem.W.Frag} {H : Hp} {L : List As}
theorem Sep.dat {v : V} {d : PyData} (s : Sep H (datA K v d :: L)) : Dp K H v d := by
  obtain ⟨c, R, a, h2, _⟩ := s.open
  exact a H h2.left (.refl _)
theorem Sep.datInts {l : Addr} {xs : List Int} (s : Sep H (cellA l (.lst (xs.map V.int)) :: L)) : Sep H (datA K (.ref l) (.list (intsD xs)) :: L) :=
  s.map1 fun c e H1 hh i1 => by
    rw [show c = [(l, .lst (xs.map V.int))] from e] at hh
    exact .lst (SqL.of hh.head) (ints_dp xs)
/-- a list of what is held -/
theorem Sep.datList {l : Addr} {vs : List V} {ds : List PyData} (s : Sep H (cellA l (.lst vs) :: datsA K vs ds :: L)) : Sep H (datA K (.ref l) (.list ds) :: L) :=
  s.merge fun c1 c2 e b H1 hh i1 => by
    rw [show c1 = [(l, .lst vs)] from e] at hh
    exact .lst (SqL.of hh.head) (b H1 hh.tail i1)
theorem Sep.datsNil (s : Sep H L) : Sep H (datsA K [] [] :: L) := by
  obtain ⟨c, h1, h2⟩ := s
  exact ⟨c, h1, [], c, rfl, fun H1 _ _ => .nil, h2⟩
theorem Sep.datsCons {v : V} {d : PyData} {vs : List V} {ds : List PyData} (s : Sep H (datA K v d :: datsA K vs ds :: L)) : Sep H (datsA K (v :: vs) (d :: ds) :: L) :=
  s.merge fun c1 c2 a b H1 hh i1 => .cons (a H1 hh.left i1) (b H1 hh.right i1)
theorem DpAll.app {H : Hp} : ∀ {vs us : List V} {ds es : List PyData}, DpAll K H vs ds → DpAll K H us es → DpAll K H (vs ++ us) (ds ++ es)
  | _, _, _, _, .nil, h => h
  | _, _, _, _, .cons a b, h => .cons a (DpAll.app b h)
theorem Sep.datsApp {vs us : List V} {ds es : List PyData} (s : Sep H (datsA K vs ds :: datsA K us es :: L)) : Sep H (datsA K (vs ++ us) (ds ++ es) :: L) :=
  s.merge fun c1 c2 a b H1 hh i1 => DpAll.app (a H1 hh.left i1) (b H1 hh.right i1)
theorem Sep.datsSnoc {v : V} {d : PyData} {vs : List V} {ds : List PyData} (s : Sep H (datA K v d :: datsA K vs ds :: L)) : Sep H (datsA K (vs ++ [v]) (ds ++ [d]) :: L) :=
  s.merge fun c1 c2 a b H1 hh i1 => DpAll.app (b H1 hh.right i1) (.cons (a H1 hh.left i1) .nil)
theorem Sep.datPure {v : V} {d : PyData} (s : Sep H L) (h : ∀ H1, Imm H H1 → Dp K H1 v d) : Sep H (datA K v d :: L) := by
  obtain ⟨c, h1, h2⟩ := s
  exact ⟨c, h1, [], c, rfl, fun H1 _ i => h H1 i, h2⟩
end
/-! no list, tuple in it longer than n -/
mutual
def lwD (n : Nat) : PyData → Prop
  | .list xs => xs.length ≤ n ∧ lwAll n xs
  | .tuple xs => xs.length ≤ n ∧ lwAll n xs
  | _ => True
def lwAll (n : Nat) : List PyData → Prop
  | [] => True
  | x :: r => lwD n x ∧ lwAll n r
end
theorem lwAll.get {n : Nat} : ∀ {ds : List PyData} {i : Nat} {d : PyData}, lwAll n ds → ds[i]? = some d → lwD n d
  | [], i, d, _, e => by simp at e
  | x :: r, 0, d, h, e => by simp at e; subst e; exact h.1
  | x :: r, i + 1, d, h, e => lwAll.get (i := i) h.2 (by simpa using e)
theorem lwAll_of {n : Nat} : ∀ {ds : List PyData}, (∀ d ∈ ds, lwD n d) → lwAll n ds
  | [], _ => trivial
  | x :: r, h => ⟨h x (List.mem_cons_self ..), lwAll_of fun d hd => h d (List.mem_cons_of_mem _ hd)⟩
theorem lw_ints {n : Nat} {xs : List Int} (h : xs.length ≤ n) : lwD n (.list (intsD xs)) := ⟨by rw [intsD, List.length_map]; exact h, lwAll_of fun d hd => by obtain ⟨i, _, rfl⟩ := List.mem_map.mp hd; trivial⟩
end SD
set_option Elab.async false
set_option linter.all false
set_option maxRecDepth 100000
set_option maxHeartbeats 4000000
namespace SD
open PySem PySem.Spec PyProof.Rows L2
local macro_rules | `(tactic| walk_at "s1") => `(tactic| first
  | with_reducible refine w_nT ?_
  | with_reducible refine w_nF ?_
  | with_reducible refine w_frzS ?_
  | with_reducible refine w_seq ?_
  | with_reducible refine w_next ?_
  | with_reducible refine w_asg ?_
  | with_reducible refine w_drop ?_
  | with_reducible refine w_ret ?_
  | with_reducible refine w_retN ?_
  | with_reducible refine w_ifs ?_
  | with_reducible refine w_par ?_
  | with_reducible refine w_c ?_
  | with_reducible refine w_nil ?_
  | with_reducible refine w_cons ?_
  | with_reducible refine w_op ?_
  | with_reducible refine w_un ?_
  | with_reducible refine w_rI0 ?_
  | with_reducible refine w_rU ?_
  | with_reducible refine w_test ?_
  | with_reducible refine w_b ?_
  | with_reducible refine w_bl ?_
  | with_reducible refine w_and ?_
  | with_reducible refine w_or ?_
  | with_reducible refine w_not ?_
  | with_reducible refine w_andV ?_
  | with_reducible refine w_orV ?_
  | with_reducible refine w_notV ?_
  | with_reducible refine w_if ?_
  | with_reducible refine w_chain ?_
  | with_reducible refine w_eqI ?_
  | with_reducible refine w_neI ?_
  | with_reducible refine w_eqS ?_
  | with_reducible refine w_neS ?_
  | with_reducible refine w_pcons ?_
  | with_reducible refine w_pnil ?_
  | with_reducible refine w_dget ?_
  | with_reducible refine w_dget2 ?_
  | with_reducible refine w_dput ?_
  | with_reducible refine w_neB ?_
  | with_reducible refine w_eqB ?_
  | with_reducible refine w_isNb ?_
  | with_reducible refine w_isNs ?_
  | with_reducible refine w_min ?_
  | with_reducible refine w_max ?_
  | with_reducible refine w_isNn ?_
  | with_reducible refine w_isNi ?_
  | with_reducible refine w_isNr ?_
  | with_reducible refine w_notNn ?_
  | with_reducible refine w_notNi ?_
  | with_reducible refine w_notNr ?_
  | with_reducible refine w_call ?_
  | with_reducible refine w_cb ?_
  | with_reducible refine w_meth ?_
  | with_reducible refine w_make ?_
  | with_reducible refine w_tup ?_
  | with_reducible refine w_lst ?_
  | with_reducible refine w_int1b ?_
  | with_reducible refine w_int1 ?_
  | with_reducible refine w_gNil ?_
  | with_reducible refine w_gCons ?_
  | with_reducible refine w_gSub ?_
  | with_reducible refine w_bm ?_
  | with_reducible refine w_sl ?_
  | with_reducible refine w_part ?_
  | with_reducible refine w_partI ?_
  | with_reducible refine w_noPart ?_
  | with_reducible refine w_for ?_
  | with_reducible refine w_lc ?_
  | with_reducible refine w_rng1 ?_
  | with_reducible refine w_iList ?_
  | with_reducible refine w_iTup ?_
  | with_reducible refine w_break ?_
  | with_reducible refine w_cont ?_
  | ((with_reducible refine' w_var ?h ?_); (case h => exact rfl))
  | ((with_reducible refine' w_gName ?h ?_); (case h => (simp only [wipe, List.set]; rfl)))
  | ((with_reducible refine' w_par2 ?h ?_); (case h => (simp only [wipe, List.set]; rfl)))
  | ((with_reducible refine' w_mod ?h ?_); (case h => omega))
  | ((with_reducible refine' w_mul ?h ?_); (case h => omega))
  | ((with_reducible refine' w_rng1I ?h ?_); (case h => omega))
  | with_reducible refine iteT ?_
  | with_reducible refine iteF ?_
  | ((with_reducible refine' iteDT ?h ?_); (case h => omega))
  | ((with_reducible refine' iteDF ?h ?_); (case h => omega))
  | ((with_reducible refine' iteNT ?h ?_); (case h => omega))
  | ((with_reducible refine' iteNF ?h ?_); (case h => omega))
  | ((with_reducible refine' iteDT ?h ?_); (case h => decide +kernel))
  | ((with_reducible refine' iteDF ?h ?_); (case h => decide +kernel))
  | ((with_reducible refine' iteNT ?h ?_); (case h => decide +kernel))
  | ((with_reducible refine' iteNF ?h ?_); (case h => decide +kernel))
  | fail "stop")
local macro_rules | `(tactic| walk_at "st") => `(tactic| (walk_at "s1"; repeat' walk_at "s1"))
/-! ### kinds -/
section
variable {K : PySem.W.Frag} {H : Hp}
theorem tyLs {a : Addr} {xs : List V} (h : SqL K H a xs) : TyX K H (.ref a) (.type "list") := by
  rcases h with (h | ⟨o, h⟩) | ⟨o, its, n, l, c, _⟩
  · exact .base (.lst h)
  · exact .base (.frz h)
  · exact .kList l c
theorem isi_lsL {a : Addr} {xs : List V} (h : SqL K H a xs) : IsiOf K H (.ref a) "list" true := ⟨_, tyLs h, kit_ty (by decide +kernel)⟩
theorem isi_lsT {a : Addr} {xs : List V} (h : SqL K H a xs) : IsiOf K H (.ref a) "tuple" false := ⟨_, tyLs h, kit_ty (by decide +kernel)⟩
theorem isi_lsB {a : Addr} {xs : List V} (h : SqL K H a xs) : IsiOf K H (.ref a) "bool" false := ⟨_, tyLs h, kit_ty (by decide +kernel)⟩
theorem isi_lsI {a : Addr} {xs : List V} (h : SqL K H a xs) : IsiOf K H (.ref a) "int" false := ⟨_, tyLs h, kit_ty (by decide +kernel)⟩
theorem isi_lsS {a : Addr} {xs : List V} (h : SqL K H a xs) : IsiOf K H (.ref a) "str" false := ⟨_, tyLs h, kit_ty (by decide +kernel)⟩
theorem isi_tupB {a : Addr} {xs : List V} (h : SqT K H a xs) : IsiOf K H (.ref a) "bool" false := ⟨_, tyT h, kit_ty (by decide +kernel)⟩
theorem isi_tupLs {a : Addr} {xs : List V} (h : SqT K H a xs) : IsiOf K H (.ref a) "list" false := ⟨_, tyT h, kit_ty (by decide +kernel)⟩
theorem isi_strB (i : Str) : IsiOf K H (.str i) "bool" false := ⟨_, .base (.str i), kit_ty (by decide +kernel)⟩
theorem isi_bB (i : Bool) : IsiOf K H (.bl i) "bool" true := ⟨_, .base (.bl i), kit_ty (by decide +kernel)⟩
theorem isi_nB : IsiOf K H .non "bool" false := ⟨_, .base .non, kit_ty (by decide +kernel)⟩
theorem isi_nS : IsiOf K H .non "str" false := ⟨_, .base .non, kit_ty (by decide +kernel)⟩
theorem isi_nI : IsiOf K H .non "int" false := ⟨_, .base .non, kit_ty (by decide +kernel)⟩
end
/-! ### _law_like, of two alike -/
def sp_law_like (n : Nat) (K : PySem.W.Frag) (w : World) : Sp := fun vs H Q _ => ∃ (v u : V) (d : PyData), vs = [v, u] ∧ d.depth < n ∧ lwD 1000000 d ∧ Dp K H v d ∧ Dp K H u d ∧ Q (.bl true) H
abbrev n_f_law_like : List Str := ["_law_found", "_law_due", "_law_k"]
def t_f_law_like (K : PySem.W.Frag) (w : World) (n : Nat) : TS :=
 (tSeq (tIfS (tB (tCB (rIsi' K) (tCons (tVar 1) (tCons (tC (.ty "bool")) tNil)))) (tRet (tAndV (tCB (rIsi' K) (tCons (tVar 0) (tCons (tC (.ty "bool")) tNil))) (tOp rEq (tVar 0) (tVar 1)))) tNext)
 (tSeq (tIfS (tB (tCB (rIsi' K) (tCons (tVar 1) (tCons (tC (.ty "str")) tNil)))) (tRet (tAndV (tCB (rIsi' K) (tCons (tVar 0) (tCons (tC (.ty "str")) tNil))) (tOp rEq (tVar 0) (tVar 1)))) tNext)
 (tSeq (tIfS (tB (tCB (rIsi' K) (tCons (tVar 1) (tCons (tC (.ty "int")) tNil)))) (tRet (tAndV (tCB (rIsi' K) (tCons (tVar 0) (tCons (tC (.ty "int")) tNil))) (tAndV (tNotV (tCB (rIsi' K) (tCons (tVar 0) (tCons (tC (.ty "bool")) tNil)))) (tOp rEq (tVar 0) (tVar 1))))) tNext)
 (tSeq (tIfS (tTest (tOp rIsN (tVar 1) (tC .non))) (tRet (tOp rIsN (tVar 0) (tC .non))) tNext)
 (tSeq (tIfS (tOr (tTest (tOp rNe (tCB (rIsi' K) (tCons (tVar 1) (tCons (tC (.ty "tuple")) tNil))) (tCB (rIsi' K) (tCons (tVar 0) (tCons (tC (.ty "tuple")) tNil))))) (tTest (tOp rNe (tCB (rIsi' K) (tCons (tVar 1) (tCons (tC (.ty "list")) tNil))) (tCB (rIsi' K) (tCons (tVar 0) (tCons (tC (.ty "list")) tNil)))))) (tRet (tC (.bl false))) tNext)
 (tSeq (tIfS (tTest (tOp rNe (tCB (rLenS' K) (tCons (tVar 0) tNil)) (tCB (rLenS' K) (tCons (tVar 1) tNil)))) (tRet (tC (.bl false))) tNext)
 (tSeq (tFor (iRng1 (tCons (tCB (rLenS' K) (tCons (tVar 1) tNil)) tNil)) (gName 2) (tIfS (tNot (tB (tCall (sp_law_like n K w) [] E0 (tCons (tOp (rIx K) (tVar 0) (tVar 2)) (tCons (tOp (rIx K) (tVar 1) (tVar 2)) tNil))))) (tRet (tC (.bl false))) tNext))
 (tRet (tC (.bl true))))))))))
theorem st_f_law_like {x0 x1 : V} : start n_f_law_like [x0, x1] = [some x0, some x1, none] := rfl
theorem pu_f_law_like {K : PySem.W.Frag} {w : World} (n : Nat) (vs : List V) (H : Hp) (Q : VK) (E : XK) (h : sp_law_like (n + 1) K w vs H Q E) : t_f_law_like K w n { nx := fun _ H' => Q .non H', rt := Q } (start n_f_law_like vs) H := by
  obtain ⟨v, u, d, rfl, hd, hw, hv, hu, q⟩ := h
  rw [st_f_law_like]
  unfold t_f_law_like
  walk_at "st"
  cases hv with
  | non =>
    cases hu
    refine w_isi isi_nB ?_
    walk_at "st"
    refine w_isi isi_nS ?_
    walk_at "st"
    refine w_isi isi_nI ?_
    walk_at "st"
    exact q
  | bl b =>
    cases hu
    refine w_isi (isi_bB b) ?_
    walk_at "st"
    refine w_isi (isi_bB b) ?_
    walk_at "st"
    rw [decide_eq_true rfl]
    exact q
  | int i =>
    cases hu
    refine w_isi (isi_intB K H i) ?_
    walk_at "st"
    refine w_isi (isi_intS i) ?_
    walk_at "st"
    refine w_isi (isi_int K H i) ?_
    walk_at "st"
    refine w_isi (isi_int K H i) ?_
    walk_at "st"
    refine w_isi (isi_intB K H i) ?_
    walk_at "st"
    rw [decide_eq_true rfl]
    exact q
  | str z =>
    cases hu
    refine w_isi (isi_strB z) ?_
    walk_at "st"
    refine w_isi (isi_strS K H z) ?_
    walk_at "st"
    refine w_isi (isi_strS K H z) ?_
    walk_at "st"
    rw [decide_eq_true rfl]
    exact q
  | @lst a xs ds hs hx =>
    cases hu with
    | @lst b ys _ gs gx =>
      have l1 := DpAll.len hx
      have l2 := DpAll.len gx
      refine w_isi (isi_lsB gs) ?_
      walk_at "st"
      refine w_isi (isi_lsS gs) ?_
      walk_at "st"
      refine w_isi (isi_lsI gs) ?_
      walk_at "st"
      refine w_isi (isi_lsT gs) ?_
      walk_at "st"
      refine w_isi (isi_lsT hs) ?_
      walk_at "st"
      refine w_isi (isi_lsL gs) ?_
      walk_at "st"
      refine w_isi (isi_lsL hs) ?_
      walk_at "st"
      refine w_lenL hs ?_
      walk_at "st"
      refine w_lenL gs ?_
      walk_at "st"
      refine w_lenL gs ?_
      have hw1 : ds.length ≤ 1000000 := hw.1
      refine w_rng1I ⟨by omega, by omega⟩ ?_
      refine k_forR (n := ((ys.length : Nat) : Int).toNat) (fun i σ H' => ∃ x2, σ = [some (.ref a), some (.ref b), x2] ∧ H' = H) ⟨_, rfl, rfl⟩ (fun i σ H' hi hP => ?_) fun σ H' hP => ?_
      · obtain ⟨x2, rfl, rfl⟩ := hP
        rw [Int.toNat_natCast] at hi
        have e1 : xs[i]? = some xs[i] := List.getElem?_eq_getElem (by omega)
        have e2 : ys[i]? = some ys[i] := List.getElem?_eq_getElem hi
        obtain ⟨d1, ed1, k1⟩ := DpAll.get hx e1
        obtain ⟨d2, ed2, k2⟩ := DpAll.get gx e2
        rw [ed1] at ed2; cases ed2
        have := depth_get ed1
        have hd' : PyData.depthAll ds + 1 < n + 1 := hd
        walk_at "st"
        refine w_ixAL hs (atI_nat e1) ?_
        walk_at "st"
        refine w_ixAL gs (atI_nat e2) ?_
        walk_at "st"
        refine ⟨_, _, d1, rfl, by omega, lwAll.get hw.2 ed1, k1, k2, ?_⟩
        walk_at "st"
        exact ⟨_, rfl, rfl⟩
      · obtain ⟨x2, rfl, rfl⟩ := hP
        walk_at "st"
        exact q
  | @tup a xs ds hs hx =>
    cases hu with
    | @tup b ys _ gs gx =>
      have l1 := DpAll.len hx
      have l2 := DpAll.len gx
      refine w_isi (isi_tupB gs) ?_
      walk_at "st"
      refine w_isi (isi_tupS gs) ?_
      walk_at "st"
      refine w_isi (isi_tupI gs) ?_
      walk_at "st"
      refine w_isi (isi_tup gs) ?_
      walk_at "st"
      refine w_isi (isi_tup hs) ?_
      walk_at "st"
      refine w_isi (isi_tupLs gs) ?_
      walk_at "st"
      refine w_isi (isi_tupLs hs) ?_
      walk_at "st"
      refine w_lenT hs ?_
      walk_at "st"
      refine w_lenT gs ?_
      walk_at "st"
      refine w_lenT gs ?_
      have hw1 : ds.length ≤ 1000000 := hw.1
      refine w_rng1I ⟨by omega, by omega⟩ ?_
      refine k_forR (n := ((ys.length : Nat) : Int).toNat) (fun i σ H' => ∃ x2, σ = [some (.ref a), some (.ref b), x2] ∧ H' = H) ⟨_, rfl, rfl⟩ (fun i σ H' hi hP => ?_) fun σ H' hP => ?_
      · obtain ⟨x2, rfl, rfl⟩ := hP
        rw [Int.toNat_natCast] at hi
        have e1 : xs[i]? = some xs[i] := List.getElem?_eq_getElem (by omega)
        have e2 : ys[i]? = some ys[i] := List.getElem?_eq_getElem hi
        obtain ⟨d1, ed1, k1⟩ := DpAll.get hx e1
        obtain ⟨d2, ed2, k2⟩ := DpAll.get gx e2
        rw [ed1] at ed2; cases ed2
        have := depth_get ed1
        have hd' : PyData.depthAll ds + 1 < n + 1 := hd
        walk_at "st"
        refine w_ixAT hs (atI_nat e1) ?_
        walk_at "st"
        refine w_ixAT gs (atI_nat e2) ?_
        walk_at "st"
        refine ⟨_, _, d1, rfl, by omega, lwAll.get hw.2 ed1, k1, k2, ?_⟩
        walk_at "st"
        exact ⟨_, rfl, rfl⟩
      · obtain ⟨x2, rfl, rfl⟩ := hP
        walk_at "st"
        exact q
end SD
set_option Elab.async false
set_option linter.all false
set_option maxRecDepth 100000
set_option maxHeartbeats 4000000
namespace SD
open PySem PySem.Spec PyProof.Rows L2
/-! ### a written table of texts, from what the head tells -/
theorem keys_none {P : Params} {z : Str} : ∀ {l : List DictEntry} {ks : List Str}, l.map He.keyOf = He.keysIn P ks → z ∉ ks → l.find? (·.key.isStr z) = none ∧ l.any (·.refKey) = false
  | [], _, _, _ => ⟨rfl, rfl⟩
  | e :: r, [], h, _ => by cases h
  | e :: r, k :: ks, h, hz => by
    have h1 : He.keyOf e :: r.map He.keyOf = some (k, PyData.keyHash P k) :: He.keysIn P ks := h
    injection h1 with h2 h3
    obtain ⟨f1, f2⟩ := keys_none h3 (fun m => hz (List.mem_cons_of_mem _ m))
    unfold He.keyOf at h2
    split at h2
    · rename_i x t q
      have h4 := (Prod.mk.inj (Option.some.inj h2)).1
      have hx : e.key.isStr z = false := by
        rw [q]
        show (x == z) = false
        have : x ≠ z := fun e' => hz (by rw [← e', h4]; exact List.mem_cons_self ..)
        simpa using this
      refine ⟨?_, ?_⟩
      · rw [List.find?_cons, hx]; exact f1
      · rw [List.any_cons, f2]
        have : e.refKey = false := by unfold DictEntry.refKey; rw [q]
        rw [this]; rfl
    · cases h2
theorem ktab_of {K : PySem.W.Frag} {w : World} {a : Addr} {kvs : List (Str × He.Dv)} (h : He.dicW K a = some (He.keysIn w.params (kvs.map (·.1)))) (hv : He.valsB K a kvs = true) :
    KTab K w a (fun z => (kvs.map fun q => (q.1, q.2.v K)).lookup z) := by
  obtain ⟨es, n, D⟩ := He.dicW_ok h
  refine ⟨es, n, D, fun z => ?_⟩
  cases q : (kvs.map fun q => (q.1, q.2.v K)).lookup z with
  | some v =>
    have hm : ∃ d, (z, d) ∈ kvs ∧ v = d.v K := by
      clear h hv D
      induction kvs with
      | nil => cases q
      | cons x r ih =>
        rw [List.map_cons, List.lookup_cons] at q
        split at q
        · rename_i e
          refine ⟨x.2, ?_, (Option.some.inj q).symm⟩
          rw [eq_of_beq e]; exact List.mem_cons_self ..
        · obtain ⟨d, m, e⟩ := ih q
          exact ⟨d, List.mem_cons_of_mem _ m, e⟩
    obtain ⟨d, m, rfl⟩ := hm
    obtain ⟨u, e1, e2⟩ := He.valsB_ok hv m
    exact ⟨some u, e1, by show RelO ((kvs.map fun q => (q.1, q.2.v K)).lookup z) (some u); rw [q]; exact e2⟩
  | none =>
    have hz : z ∉ kvs.map (·.1) := fun m => by
      clear h hv D
      induction kvs with
      | nil => cases m
      | cons x r ih =>
        rw [List.map_cons, List.lookup_cons] at q
        split at q
        · cases q
        · rename_i e
          rw [List.map_cons] at m
          rcases List.mem_cons.mp m with m | m
          · rw [m] at e; simp at e
          · exact ih q m
    refine ⟨none, ?_, by show RelO ((kvs.map fun q => (q.1, q.2.v K)).lookup z) none; rw [q]; trivial⟩
    have hk : es.toList.map He.keyOf = He.keysIn w.params (kvs.map (·.1)) := by
      have h2 := h
      unfold He.dicW at h2
      rw [D.at_] at h2
      have h3 : (match decide ("dict" = "dict") && ((#[] : Array (Option Value)).isEmpty && !(a == sysModules)) with
        | true => some (es.toList.map He.keyOf)
        | false => none) = some (He.keysIn w.params (kvs.map (·.1))) := h2
      rw [D.low] at h3
      exact Option.some.inj h3
    obtain ⟨f1, f2⟩ := keys_none hk hz
    unfold PySem.W.nsIn
    rw [D.at_]
    show (match es.toList.find? (·.key.isStr z) with
      | some e => some (some e.val)
      | none => if es.toList.any (·.refKey) then none else some none) = some none
    rw [f1, f2]
    rfl
theorem saysT_tab {fa : List He.Fa} {fn : List He.DefD} {ts : List He.Tab} {w : World} {K : PySem.W.Frag} (c : He.SaysT fa fn ts w K) (i : Nat) {t : He.Tab} (h : ts[i]? = some t := by rfl) : He.dicW K (t.1 K) = some (He.keysIn w.params t.2) := by
  have e : ts.map (fun t => He.dicW K (t.1 K)) = ts.map fun t => some (He.keysIn w.params t.2) := congrArg (fun z : He.AlT => z.2) c
  have e2 : (ts.map fun t => He.dicW K (t.1 K))[i]? = (ts.map fun t => some (He.keysIn w.params t.2))[i]? := by rw [e]
  rw [List.getElem?_map, List.getElem?_map, h] at e2
  exact Option.some.inj e2
end SD
set_option Elab.async false
set_option linter.all false
set_option maxRecDepth 100000
set_option maxHeartbeats 4000000
namespace SD
open PySem PySem.Spec PyProof.Rows L2
/-! ### a written dict: in, list of its keys -/
def rInKT (K : PySem.W.Frag) (w : World) : R2 := fun x y H Q => ∃ d k f, x = .str k ∧ y = .ref d ∧ KTab K w d f ∧ Q (.bl (f k).isSome) H
def rNotInKT (K : PySem.W.Frag) (w : World) : R2 := fun x y H Q => ∃ d k f, x = .str k ∧ y = .ref d ∧ KTab K w d f ∧ Q (.bl !(f k).isSome) H
theorem relO_isSome {o : Option V} {r : Option Value} (h : RelO o r) : r.isSome = o.isSome := by
  cases o <;> cases r <;> first | rfl | exact h.elim
theorem op_inKT {X : Cx} : OpR X (compareOp .In) (rInKT X.K X.w) := by
  intro pins s σ H x y v u Q I rx ry h
  obtain ⟨d, k, f, rfl, rfl, ⟨es, n, D, hf⟩, q⟩ := h
  obtain ⟨r, e, ro⟩ := hf k
  exact op_in_kd D pins s σ H _ _ v u Q I rx ry ⟨k, r, rfl, rfl, e, by rw [relO_isSome ro]; exact q⟩
theorem op_notInKT {X : Cx} : OpR X (compareOp .NotIn) (rNotInKT X.K X.w) := by
  intro pins s σ H x y v u Q I rx ry h
  obtain ⟨d, k, f, rfl, rfl, ⟨es, n, D, hf⟩, q⟩ := h
  obtain ⟨r, e, ro⟩ := hf k
  exact op_notIn_kd D pins s σ H _ _ v u Q I rx ry ⟨k, r, rfl, rfl, e, by rw [relO_isSome ro]; exact q⟩
def keyS (e : DictEntry) : Option Str := match e.key with
  | .str x _ => some x
  | _ => none
def keyG (e : DictEntry) : Str := (keyS e).getD ""
/-- d: a written dict with these keys -/
def KKeys (K : PySem.W.Frag) (w : World) (d : Addr) (ks : List Str) : Prop :=
  ∃ (es : Array DictEntry) (n : Nat), KDict K w d es n ∧ es.toList.map keyS = ks.map some ∧ ks.Nodup ∧ ks.length ≤ 1000
theorem kkeys_of {K : PySem.W.Frag} {w : World} {a : Addr} {ks : List Str} (h : He.dicW K a = some (He.keysIn w.params ks)) (hn : ks.Nodup) (hl : ks.length ≤ 1000) : KKeys K w a ks := by
  obtain ⟨es, n, D⟩ := He.dicW_ok h
  refine ⟨es, n, D, ?_, hn, hl⟩
  have h2 : He.dicW K a = some (es.toList.map He.keyOf) := by
    unfold He.dicW
    rw [D.at_]
    have z : (decide (("dict" : String) = "dict") && ((#[] : Array (Option Value)).isEmpty && !(a == sysModules))) = true := by rw [D.low]; rfl
    show (match decide (("dict" : String) = "dict") && ((#[] : Array (Option Value)).isEmpty && !(a == sysModules)) with
      | true => some (es.toList.map He.keyOf)
      | false => none) = _
    rw [z]
  rw [h] at h2
  have h3 : He.keysIn w.params ks = es.toList.map He.keyOf := Option.some.inj h2
  generalize es.toList = l at h3
  clear h2 h hn hl D
  induction l generalizing ks with
  | nil =>
    cases ks with
    | nil => rfl
    | cons k r => cases h3
  | cons e r ih =>
    cases ks with
    | nil => cases h3
    | cons k ks =>
      have h4 : some (k, PyData.keyHash w.params k) :: He.keysIn w.params ks = He.keyOf e :: r.map He.keyOf := h3
      injection h4 with h5 h6
      have h7 : keyS e = some k := by
        unfold He.keyOf at h5
        unfold keyS
        split at h5
        · rename_i x t q
          rw [q]
          have := (Prod.mk.inj (Option.some.inj h5)).1
          rw [this]
        · cases h5
      show keyS e :: r.map keyS = some k :: ks.map some
      rw [h7, ih h6]
def rListKT (K : PySem.W.Frag) (w : World) : List V → Hp → VK → Prop := fun xs H Q => ∃ d ks, xs = [.ref d] ∧ KKeys K w d ks ∧ ∀ q, H q = none → Q (.ref q) (upd H q (.lst (ks.map V.str)))
theorem keyS_at {ks : List Str} {l : List DictEntry} (h : l.map keyS = ks.map some) : l.map keyG = ks := by
  induction l generalizing ks with
  | nil => cases ks with
    | nil => rfl
    | cons k r => cases h
  | cons e r ih => cases ks with
    | nil => cases h
    | cons k ks =>
      have h4 : keyS e :: r.map keyS = some k :: ks.map some := h
      injection h4 with h5 h6
      show (keyS e).getD "" :: r.map keyG = _
      rw [h5, ih h6]; rfl
theorem keyS_pairs {P : Program} {w : World} {ks : List Str} : ∀ {l : List DictEntry}, (∀ e ∈ l, ∃ x t, e.key = Value.str x t) → Pairs (strKind P w) l (l.map fun e => (keyG e, e.val))
  | [], _ => .nil
  | e :: r, h => .cons (by
      obtain ⟨x, t, q⟩ := h e (List.mem_cons_self ..)
      have : keyG e = x := by unfold keyG keyS; rw [q]; rfl
      rw [q]
      show (strKind P w).is (keyG e) (.str x t) = true
      rw [this]
      exact strKind_is P w x t) rfl (keyS_pairs (ks := ks) fun e' he => h e' (List.mem_cons_of_mem _ he))
theorem call_listKT {X : Cx} (hc : X.calm = true) : CallR X (.type "list") (rListKT X.K X.w) := by
  intro pins s σ H xs us Q I r h
  obtain ⟨d, ks, e, ⟨es, n, D, hk, hn, hl⟩, q⟩ := h
  subst e
  obtain ⟨u, eu, rx⟩ := vals1 r
  subst eu
  obtain rfl : u = Value.ref d := rx
  have hg : es.toList.map keyG = ks := keyS_at hk
  have hkey : ∀ e ∈ es.toList, ∃ x t, e.key = Value.str x t := fun e he => by
    obtain ⟨x, t, e1, _⟩ := D.lit.all e he
    exact ⟨x, t, e1⟩
  have hm : (es.toList.map fun e => (keyG e, e.val)).map (·.1) = ks := by rw [List.map_map]; exact hg
  have hat : s.heap.DictAt (strKind X.prog X.w) d (es.toList.map fun e => (keyG e, e.val)) n :=
    ⟨_, es, I.kIn _ _ D.at_, ⟨rfl, rfl, rfl⟩, rfl, fun e he => by
      obtain ⟨x, t, e1, e2⟩ := D.lit.all e (Array.mem_toList_iff.mpr he)
      exact ⟨x, by rw [e1]; exact strKind_is X.prog X.w x t, e2⟩, keyS_pairs (ks := ks) hkey, by rw [hm]; exact hn⟩
  have hll : (es.toList.map fun e => (keyG e, e.val)).length = ks.length := by have := congrArg List.length hg; rw [List.length_map] at this ⊢; exact this
  refine PySem.W.kdl_call (PySem.W.kdl_dict (knd := strKind X.prog X.w) (kvs := es.toList.map fun e => (keyG e, e.val)) (ep := n) D.low) (I.ok.hd hc) hat (by rw [hll]; exact Nat.le_trans hl (by decide)) fun h' tk acc c' hk' hD hacc => ?_
  have hv : Vals (ks.map V.str) acc.toList := vals_of_at (by rw [List.length_map]; exact hll.symm.trans (hacc.1.symm.trans Array.length_toList.symm)) fun j x u e1 e2 => by
    obtain ⟨k, v, e3, e4⟩ := hacc.2 j u (by rw [← Array.getElem?_toList]; exact e2)
    have e5 : ks[j]? = some k := by rw [← hm, List.getElem?_map, e3]; rfl
    rw [List.getElem?_map, e5] at e1
    have e6 : V.str k = x := Option.some.inj e1
    subst e6
    obtain ⟨t, ev⟩ := Value.isStrOf_shape (x := k) (v := u) e4
    exact ⟨t, ev⟩
  refine ⟨.ref s.heap.objs.size, upd H s.heap.objs.size (.lst (ks.map V.str)), I.laid (t' := tk) hk' (Nat.le_refl _)
    (show ObjOk X.prog X.w _ _ _ (.lst (ks.map V.str)) from ⟨by rw [List.length_map]; exact Nat.le_trans hl (by decide), acc.toList, c', hv, by rw [Array.toArray_toList]; exact hD⟩), rfl, q _ (I.hok.fresh (Nat.le_refl _))⟩
/-! ### texts -/
def rJoinS (K : PySem.W.Frag) : V → List V → Hp → VK → Prop := fun x xs H Q => ∃ a p, ∃ ys : List Str, x = .str a ∧ xs = [.ref p] ∧ (SqL K H p (ys.map V.str) ∨ SqT K H p (ys.map V.str)) ∧
    (ys.map (·.length)).sum + ys.length * a.length ≤ 16777216 ∧ Q (.str (Txt.join a ys)) H
theorem mt_joinS {X : Cx} : MtR X "str.join" (rJoinS X.K) := mt_join
def rSplitS : V → List V → Hp → VK → Prop := fun x xs H Q => ∃ a b, x = .str a ∧ xs = [.str b] ∧ (b.length == 0) = false ∧ a.length + 2 ≤ sizeLine ∧ rNewStrs (Txt.split a b) H Q
theorem mt_splitS {X : Cx} : MtR X "str.split" rSplitS := mt_split
end SD
set_option Elab.async false
set_option linter.all false
set_option maxRecDepth 100000
set_option maxHeartbeats 4000000
namespace SD
open PySem PySem.Spec PyProof.Rows L2
/-! ### dicts, step by step -/
section
variable {K : PySem.W.Frag} {w : World} {H : Hp} {σ : L2.St} {Q : VK} {D : Ends} {QP : List (V × V) → Hp → Prop} {QB : Bool → Hp → Prop}
def KDisp (p : Addr) (Q : VK) (ps : List (V × V)) (H2 : Hp) : Prop := H2 p = some (.dK []) ∧ ∃ kvs : List (Key × V), ps = kvs.map (fun kv => (kV kv.1, kv.2)) ∧ kvs.length ≤ 15 ∧ Q (.ref p) (upd H2 p (.dK (mergeK [] kvs)))
theorem w_disp {L : List As} {trs : List (TE × TE)} (hS : Sep H L) (h : ∀ p H', Imm H H' → Sep H' (cellA p (.dK []) :: L) → tPairs trs σ H' (KDisp p Q)) : tDisp trs σ H Q :=
  fun p hp => h p _ (Imm.new hp) (hS.new hp)
theorem w_pnil (h : QP [] H) : tPairs [] σ H QP := h
theorem w_pcons {tk tv : TE} {r : List (TE × TE)} (h : tk σ H fun x H1 => tv σ H1 fun y H2 => tPairs r σ H2 fun ps H3 => QP ((x, y) :: ps) H3) : tPairs ((tk, tv) :: r) σ H QP := h
theorem k_disp {L : List As} {p : Addr} {ps : List (V × V)} (kvs : List (Key × V)) (hS : Sep H (cellA p (.dK []) :: L)) (e : ps = kvs.map (fun kv => (kV kv.1, kv.2))) (n : kvs.length ≤ 15) (m : mergeK [] kvs = kvs) (q : ∀ H', Imm H H' → Sep H' (cellA p (.dK kvs) :: L) → Q (.ref p) H') : KDisp p Q ps H :=
  ⟨hS.cell, kvs, e, n, by rw [m]; exact q _ (hS.imm rfl) (hS.set rfl)⟩
def KDGet (Q : VK) (x y : V) (H2 : Hp) : Prop := ∃ a v, x = .ref a ∧ DGet H2 a y (some v) ∧ Q v H2
theorem w_dget {td ty : TE} (h : td σ H fun x H1 => ty σ H1 fun y H2 => KDGet Q x y H2) : tDGet td ty σ H Q := h
theorem k_dgetS {a : Addr} {kvs : List (Key × V)} {k : Str} {v : V} (f : H a = some (.dK kvs)) (e : valV kvs (.inr k) = some v) (h : Q v H) : KDGet Q (.ref a) (.str k) H := ⟨a, v, rfl, by rw [← e]; exact DGet.k (k := .inr k) f, h⟩
theorem k_dgetI {a : Addr} {kvs : List (Key × V)} {k : Int} {v : V} (f : H a = some (.dK kvs)) (e : valV kvs (.inl k) = some v) (h : Q v H) : KDGet Q (.ref a) (.int k) H := ⟨a, v, rfl, by rw [← e]; exact DGet.k (k := .inl k) f, h⟩
def KDG2 (ty tx : TE) (σ : L2.St) (Q : VK) (x : V) (H1 : Hp) : Prop := ∃ a, x = .ref a ∧ IsD H1 a ∧ ty σ H1 fun y H2 => tx σ H2 fun z H3 => ∃ o, DGet H3 a y o ∧ Q (o.getD z) H3
def KDG2b (a : Addr) (Q : VK) (y z : V) (H3 : Hp) : Prop := ∃ o, DGet H3 a y o ∧ Q (o.getD z) H3
theorem w_dget2 {td ty tx : TE} (h : td σ H (KDG2 ty tx σ Q)) : tDGet2 td ty tx σ H Q := h
theorem k_dget2 {a : Addr} {kvs : List (Key × V)} {ty tx : TE} (f : H a = some (.dK kvs)) (h : ty σ H fun y H2 => tx σ H2 fun z H3 => KDG2b a Q y z H3) : KDG2 ty tx σ Q (.ref a) H := ⟨a, rfl, .inl ⟨kvs, .inl f⟩, h⟩
theorem k_dget2S {a : Addr} {kvs : List (Key × V)} {k : Str} {z : V} (f : H a = some (.dK kvs)) (h : Q ((valV kvs (.inr k)).getD z) H) : KDG2b a Q (.str k) z H := ⟨_, DGet.k (k := .inr k) f, h⟩
def KDPut (D : Ends) (σ : L2.St) (v x y : V) (H3 : Hp) : Prop := ∃ a H4, x = .ref a ∧ DPut H3 a y v H4 ∧ D.nx σ H4
theorem w_dput {td ty tv : TE} (h : tv σ H fun v H1 => td σ H1 fun x H2 => ty σ H2 fun y H3 => KDPut D σ v x y H3) : sDPut td ty tv D σ H := h
theorem k_dputS {a : Addr} {kvs kvs' : List (Key × V)} {k : Str} {v : V} (f : H a = some (.dK kvs)) (n : kvs.length < 1000) (e : putK kvs (.inr k) v = kvs') (h : D.nx σ (upd H a (.dK kvs'))) : KDPut D σ v (.ref a) (.str k) H :=
  ⟨a, _, rfl, DPut.k (k := .inr k) f (Nat.lt_of_lt_of_le n (by decide)), by rw [e]; exact h⟩
theorem w_dnewK {L : List As} (hS : Sep H L) (h : ∀ p H', Imm H H' → Sep H' (cellA p (.dK []) :: L) → Q (.ref p) H') : tDNewK σ H Q := fun p hp => h p _ (Imm.new hp) (hS.new hp)
end
end SD
set_option Elab.async false
set_option linter.all false
set_option maxRecDepth 100000
set_option maxHeartbeats 4000000
namespace SD
--@L law_k13_texts
open PySem PySem.Spec PyProof.Rows L2
local macro_rules | `(tactic| walk_at "s1") => `(tactic| first
  | with_reducible refine w_nT ?_
  | with_reducible refine w_nF ?_
  | with_reducible refine w_frzS ?_
  | with_reducible refine w_seq ?_
  | with_reducible refine w_next ?_
  | with_reducible refine w_asg ?_
  | with_reducible refine w_drop ?_
  | with_reducible refine w_ret ?_
  | with_reducible refine w_retN ?_
  | with_reducible refine w_ifs ?_
  | with_reducible refine w_par ?_
  | with_reducible refine w_c ?_
  | with_reducible refine w_nil ?_
  | with_reducible refine w_cons ?_
  | with_reducible refine w_op ?_
  | with_reducible refine w_un ?_
  | with_reducible refine w_rI0 ?_
  | with_reducible refine w_rU ?_
  | with_reducible refine w_test ?_
  | with_reducible refine w_b ?_
  | with_reducible refine w_bl ?_
  | with_reducible refine w_and ?_
  | with_reducible refine w_or ?_
  | with_reducible refine w_not ?_
  | with_reducible refine w_andV ?_
  | with_reducible refine w_orV ?_
  | with_reducible refine w_notV ?_
  | with_reducible refine w_if ?_
  | with_reducible refine w_chain ?_
  | with_reducible refine w_eqI ?_
  | with_reducible refine w_neI ?_
  | with_reducible refine w_eqS ?_
  | with_reducible refine w_neS ?_
  | with_reducible refine w_pcons ?_
  | with_reducible refine w_pnil ?_
  | with_reducible refine w_dget ?_
  | with_reducible refine w_dget2 ?_
  | with_reducible refine w_dput ?_
  | with_reducible refine w_neB ?_
  | with_reducible refine w_eqB ?_
  | with_reducible refine w_isNb ?_
  | with_reducible refine w_isNs ?_
  | with_reducible refine w_min ?_
  | with_reducible refine w_max ?_
  | with_reducible refine w_isNn ?_
  | with_reducible refine w_isNi ?_
  | with_reducible refine w_isNr ?_
  | with_reducible refine w_notNn ?_
  | with_reducible refine w_notNi ?_
  | with_reducible refine w_notNr ?_
  | with_reducible refine w_call ?_
  | with_reducible refine w_cb ?_
  | with_reducible refine w_meth ?_
  | with_reducible refine w_make ?_
  | with_reducible refine w_tup ?_
  | with_reducible refine w_lst ?_
  | with_reducible refine w_int1b ?_
  | with_reducible refine w_int1 ?_
  | with_reducible refine w_gNil ?_
  | with_reducible refine w_gCons ?_
  | with_reducible refine w_gSub ?_
  | with_reducible refine w_bm ?_
  | with_reducible refine w_sl ?_
  | with_reducible refine w_part ?_
  | with_reducible refine w_partI ?_
  | with_reducible refine w_noPart ?_
  | with_reducible refine w_for ?_
  | with_reducible refine w_lc ?_
  | with_reducible refine w_rng1 ?_
  | with_reducible refine w_iList ?_
  | with_reducible refine w_iTup ?_
  | with_reducible refine w_break ?_
  | with_reducible refine w_cont ?_
  | ((with_reducible refine' w_var ?h ?_); (case h => exact rfl))
  | ((with_reducible refine' w_gName ?h ?_); (case h => (simp only [wipe, List.set]; rfl)))
  | ((with_reducible refine' w_par2 ?h ?_); (case h => (simp only [wipe, List.set]; rfl)))
  | ((with_reducible refine' w_mod ?h ?_); (case h => omega))
  | ((with_reducible refine' w_mul ?h ?_); (case h => omega))
  | ((with_reducible refine' w_rng1I ?h ?_); (case h => omega))
  | with_reducible refine iteT ?_
  | with_reducible refine iteF ?_
  | ((with_reducible refine' iteDT ?h ?_); (case h => omega))
  | ((with_reducible refine' iteDF ?h ?_); (case h => omega))
  | ((with_reducible refine' iteNT ?h ?_); (case h => omega))
  | ((with_reducible refine' iteNF ?h ?_); (case h => omega))
  | ((with_reducible refine' iteDT ?h ?_); (case h => decide +kernel))
  | ((with_reducible refine' iteDF ?h ?_); (case h => decide +kernel))
  | ((with_reducible refine' iteNT ?h ?_); (case h => decide +kernel))
  | ((with_reducible refine' iteNF ?h ?_); (case h => decide +kernel))
  | fail "stop")
local macro_rules | `(tactic| walk_at "st") => `(tactic| (walk_at "s1"; repeat' walk_at "s1"))
/-! ### words, plainly -/
def nW (i : Int) : Str := toString i
abbrev endW : List Str := ["end"]
def ptW : Pt → List Str
  | .num n => [nW n]
  | .name k => [("n" : Str) ++ nW (k : Nat)]
  | .cell k => [("c" : Str) ++ nW (k : Nat)]
  | .two o a b => o.str :: (ptW a ++ ptW b)
def ptsW : List Pt → List Str
  | [] => []
  | p :: r => ptW p ++ ptsW r
mutual
def ddW : Dd → List Str
  | .set k x => "set" :: nW (k : Nat) :: ptW x
  | .put k x => "put" :: nW (k : Nat) :: ptW x
  | .say x => "say" :: ptW x
  | .iff x b c => "if" :: (ptW x ++ ((ddsW b ++ endW) ++ (ddsW c ++ endW)))
  | .again x b => "again" :: (ptW x ++ (ddsW b ++ endW))
  | .call f xs k => "call" :: nW (f : Nat) :: nW (xs.length : Nat) :: (ptsW xs ++ [nW (k : Nat)])
  | .ret x => "return" :: ptW x
def ddsW : List Dd → List Str
  | [] => []
  | d :: r => ddW d ++ ddsW r
end
theorem ptW_len : ∀ p : Pt, (ptW p).length = p.sz
  | .num _ => rfl
  | .name _ => rfl
  | .cell _ => rfl
  | .two o a b => by
    show (ptW a ++ ptW b).length + 1 = 1 + a.sz + b.sz
    rw [List.length_append, ptW_len a, ptW_len b]; omega
theorem ptsW_len : ∀ p : List Pt, (ptsW p).length = szPs p
  | [] => rfl
  | p :: r => by
    show (ptW p ++ ptsW r).length = p.sz + szPs r
    rw [List.length_append, ptW_len, ptsW_len r]
mutual
theorem ddW_len : ∀ d : Dd, (ddW d).length ≤ 4 * d.sz
  | .set k x => by show (ptW x).length + 1 + 1 ≤ 4 * (1 + x.sz); rw [ptW_len]; omega
  | .put k x => by show (ptW x).length + 1 + 1 ≤ 4 * (1 + x.sz); rw [ptW_len]; omega
  | .say x => by show (ptW x).length + 1 ≤ 4 * (1 + x.sz); rw [ptW_len]; omega
  | .iff x b c => by
    have h1 := ddsW_len b
    have h2 := ddsW_len c
    show (ptW x ++ ((ddsW b ++ endW) ++ (ddsW c ++ endW))).length + 1 ≤ 4 * (1 + x.sz + szDs b + szDs c)
    simp only [List.length_append, ptW_len, List.length_cons, List.length_nil]; omega
  | .again x b => by
    have h1 := ddsW_len b
    show (ptW x ++ (ddsW b ++ endW)).length + 1 ≤ 4 * (1 + x.sz + szDs b)
    simp only [List.length_append, ptW_len, List.length_cons, List.length_nil]; omega
  | .call f xs k => by
    show (ptsW xs ++ [nW (k : Nat)]).length + 1 + 1 + 1 ≤ 4 * (1 + szPs xs)
    simp only [List.length_append, ptsW_len, List.length_cons, List.length_nil]; omega
  | .ret x => by show (ptW x).length + 1 ≤ 4 * (1 + x.sz); rw [ptW_len]; omega
theorem ddsW_len : ∀ d : List Dd, (ddsW d).length ≤ 4 * szDs d
  | [] => Nat.zero_le _
  | d :: r => by
    have h1 := ddW_len d
    have h2 := ddsW_len r
    show (ddW d ++ ddsW r).length ≤ 4 * (d.sz + szDs r)
    rw [List.length_append]; omega
end
theorem nil_str (x : Str) : ("" : Str) ++ x = x := TL.ext_tl (by rw [TL.tl_append]; rfl)
/-! ### rules for texts -/
section
variable {K : PySem.W.Frag} {w : World} {H : Hp} {Q : VK}
theorem w_inKT {d : Addr} {k : Str} {f : Str → Option V} (T : KTab K w d f) {b : Bool} (e : (f k).isSome = b) (h : Q (.bl b) H) : rInKT K w (.str k) (.ref d) H Q := ⟨d, k, f, rfl, rfl, T, by rw [e]; exact h⟩
theorem log_small {i : Int} (h0 : 0 ≤ i) (h1 : i < 10007) : i.natAbs.log2 < 1920 := by
  have : i.natAbs < 2 ^ 14 := by omega
  by_cases h : i.natAbs = 0
  · rw [h]; decide
  · exact Nat.lt_of_lt_of_le ((Nat.log2_lt h).mpr this) (by decide)
theorem w_strI {i : Int} (h0 : 0 ≤ i) (h1 : i < 10007) (h : Q (.str (nW i)) H) : rStrInt [.int i] H Q := ⟨i, rfl, log_small h0 h1, h⟩
theorem w_addS {a b : Str} (n : a.length + b.length ≤ 1000) (h : Q (.str (a ++ b)) H) : rAddStr (.str a) (.str b) H Q := ⟨a, b, rfl, rfl, small n, h⟩
end
theorem numL_small {n : Nat} (h : n < 10007) : (TL.numL n).length ≤ 5 := TL.numL_len (by decide) (by omega)
theorem nW_S (n : Nat) : nW (n : Nat) = SX.S (TL.numL n) := SX.num_S n
theorem nW_len {i : Int} (h0 : 0 ≤ i) (h1 : i < 10007) : (nW i).length ≤ 5 := by
  obtain ⟨n, rfl⟩ := Int.eq_ofNat_of_zero_le h0
  rw [nW_S, SX.S_len]
  exact numL_small (by omega)
/-! ### part_words -/
def sp_part_words (n : Nat) (K : PySem.W.Frag) (w : World) : Sp := fun vs H Q _ => ∃ (v : V) (p : Pt) (a b : Nat) (L : List As), vs = [v] ∧ p.dp ≤ n ∧ PtAt K H p v ∧ p.wf a b = true ∧ a ≤ 10007 ∧ b ≤ 10007 ∧ p.sz ≤ 100 ∧ Sep H L ∧ ∀ H' l, Imm H H' → Sep H' (cellA l (.lst ((ptW p).map V.str)) :: L) → Q (.ref l) H'
def ptKey : Pt → Str
  | .num _ => "num"
  | .name _ => "name"
  | .cell _ => "cell"
  | .two o _ _ => o.str
def dT : List (Key × V) := [(.inr "num", .str ""), (.inr "name", .str "n"), (.inr "cell", .str "c")]
abbrev n_f_part_words : List Str := ["part"]
def t_f_part_words (K : PySem.W.Frag) (w : World) (n : Nat) : TS :=
 (tSeq (tIfS (tTest (tOp (rInKT K w) (tOp (rIxT K) (tVar 0) (tC (.int 0))) (tC (.ref (He.ga K "PARTS"))))) (tRet (tLst (tCons (tOp rAddStr (tDGet (tDisp [((tC (.str "num")), (tC (.str ""))), ((tC (.str "name")), (tC (.str "n"))), ((tC (.str "cell")), (tC (.str "c")))]) (tOp (rIxT K) (tVar 0) (tC (.int 0)))) (tCB rStrInt (tCons (tOp (rIxT K) (tVar 0) (tC (.int 1))) tNil))) tNil))) tNext)
 (tRet (tOp rCat (tOp rCat (tLst (tCons (tOp (rIxT K) (tVar 0) (tC (.int 0))) tNil)) (tCall (sp_part_words n K w) [] E0 (tCons (tOp (rIxT K) (tVar 0) (tC (.int 1))) tNil))) (tCall (sp_part_words n K w) [] E0 (tCons (tOp (rIxT K) (tVar 0) (tC (.int 2))) tNil)))))
theorem st_f_part_words {x0 : V} : start n_f_part_words [x0] = [some x0] := rfl
theorem pu_f_part_words {K : PySem.W.Frag} {w : World} (T : Tb K w) (n : Nat) (vs : List V) (H : Hp) (Q : VK) (E : XK) (h : sp_part_words (n + 1) K w vs H Q E) : t_f_part_words K w n { nx := fun _ H' => Q .non H', rt := Q } (start n_f_part_words vs) H := by
  obtain ⟨v, p, na, nb, L, rfl, hd, fp, hw, ha, hb, hz, h0, q⟩ := h
  rw [st_f_part_words]
  unfold t_f_part_words
  walk_at "st"
  cases p with
  | num i =>
    obtain ⟨a, rfl, ht⟩ := fp
    have hw : (decide (0 ≤ i) && decide (i < REST)) = true := hw
    rw [Bool.and_eq_true, decide_eq_true_eq, decide_eq_true_eq] at hw
    have h1 : i < 10007 := hw.2
    refine w_ixT ht (v := .str "num") rfl ?_
    walk_at "st"
    refine w_inKT T.parts (b := true) (by decide +kernel) ?_
    walk_at "st"
    refine w_disp h0 fun pd H1 i1 s1 => ?_
    walk_at "st"
    refine k_disp dT s1 rfl (by show 3 ≤ 15; decide) (by kernel_rfl) fun H2 i2 s2 => ?_
    have ht2 := (i1.trans i2).t ht
    walk_at "st"
    refine w_ixT ht2 (v := .str "num") rfl ?_
    refine k_dgetS s2.cell (v := .str "") (by kernel_rfl) ?_
    walk_at "st"
    refine w_ixT ht2 (v := .int i) rfl ?_
    walk_at "st"
    refine w_strI hw.1 h1 ?_
    have := nW_len hw.1 h1
    refine w_addS (by show 0 + _ ≤ 1000; omega) ?_
    rw [nil_str]
    walk_at "st"
    refine k_lst s2.tail fun l H3 i3 s3 => ?_
    exact q H3 l (i1.trans (i2.trans i3)) s3
  | name k =>
    obtain ⟨a, rfl, ht⟩ := fp
    have hw : decide (k < na) = true := hw
    rw [decide_eq_true_eq] at hw
    refine w_ixT ht (v := .str "name") rfl ?_
    walk_at "st"
    refine w_inKT T.parts (b := true) (by decide +kernel) ?_
    walk_at "st"
    refine w_disp h0 fun pd H1 i1 s1 => ?_
    walk_at "st"
    refine k_disp dT s1 rfl (by show 3 ≤ 15; decide) (by kernel_rfl) fun H2 i2 s2 => ?_
    have ht2 := (i1.trans i2).t ht
    walk_at "st"
    refine w_ixT ht2 (v := .str "name") rfl ?_
    refine k_dgetS s2.cell (v := .str "n") (by kernel_rfl) ?_
    walk_at "st"
    refine w_ixT ht2 (v := .int (k : Nat)) rfl ?_
    walk_at "st"
    refine w_strI (by omega) (by omega) ?_
    have := nW_len (i := (k : Nat)) (by omega) (by omega)
    refine w_addS (by show 1 + _ ≤ 1000; omega) ?_
    walk_at "st"
    refine k_lst s2.tail fun l H3 i3 s3 => ?_
    exact q H3 l (i1.trans (i2.trans i3)) s3
  | cell k =>
    obtain ⟨a, rfl, ht⟩ := fp
    have hw : decide (k < nb) = true := hw
    rw [decide_eq_true_eq] at hw
    refine w_ixT ht (v := .str "cell") rfl ?_
    walk_at "st"
    refine w_inKT T.parts (b := true) (by decide +kernel) ?_
    walk_at "st"
    refine w_disp h0 fun pd H1 i1 s1 => ?_
    walk_at "st"
    refine k_disp dT s1 rfl (by show 3 ≤ 15; decide) (by kernel_rfl) fun H2 i2 s2 => ?_
    have ht2 := (i1.trans i2).t ht
    walk_at "st"
    refine w_ixT ht2 (v := .str "cell") rfl ?_
    refine k_dgetS s2.cell (v := .str "c") (by kernel_rfl) ?_
    walk_at "st"
    refine w_ixT ht2 (v := .int (k : Nat)) rfl ?_
    walk_at "st"
    refine w_strI (by omega) (by omega) ?_
    have := nW_len (i := (k : Nat)) (by omega) (by omega)
    refine w_addS (by show 1 + _ ≤ 1000; omega) ?_
    walk_at "st"
    refine k_lst s2.tail fun l H3 i3 s3 => ?_
    exact q H3 l (i1.trans (i2.trans i3)) s3
  | two o x y =>
    obtain ⟨a, vx, vy, rfl, ht, hx, hy⟩ := fp
    have hw : (x.wf na nb && y.wf na nb) = true := hw
    rw [Bool.and_eq_true] at hw
    have hz : 1 + x.sz + y.sz ≤ 100 := hz
    have hd : 1 + max x.dp y.dp ≤ n + 1 := hd
    refine w_ixT ht (v := .str o.str) rfl ?_
    walk_at "st"
    refine w_inKT T.parts (b := false) (by cases o <;> decide +kernel) ?_
    walk_at "st"
    refine w_ixT ht (v := .str o.str) rfl ?_
    walk_at "st"
    refine k_lst h0 fun l1 H1 i1 s1 => ?_
    walk_at "st"
    refine w_ixT (i1.t ht) (atI_nat (j := 1) (v := vx) rfl) ?_
    walk_at "st"
    refine ⟨vx, x, na, nb, _, rfl, by omega, hx.mono i1, hw.1, ha, hb, by omega, s1, fun H2 l2 i2 s2 => ?_⟩
    have e1 := ptW_len x
    have e2 := ptW_len y
    refine w_cat s2 (s2.pull 1 rfl).cell s2.cell (small (by simp only [List.length_map, List.length_cons, List.length_nil]; omega)) fun l3 H3 i3 s3 => ?_
    walk_at "st"
    refine w_ixT ((i1.trans (i2.trans i3)).t ht) (atI_nat (j := 2) (v := vy) rfl) ?_
    walk_at "st"
    refine ⟨vy, y, na, nb, _, rfl, by omega, hy.mono (i1.trans (i2.trans i3)), hw.2, ha, hb, by omega, s3, fun H4 l4 i4 s4 => ?_⟩
    refine w_cat s4 (s4.pull 1 rfl).cell s4.cell (small (by simp only [List.length_map, List.length_cons, List.length_nil, List.length_append]; omega)) fun l5 H5 i5 s5 => ?_
    refine q H5 l5 (i1.trans (i2.trans (i3.trans (i4.trans i5)))) ?_
    have e : (ptW (.two o x y)).map V.str = ([V.str o.str] ++ (ptW x).map V.str) ++ (ptW y).map V.str := by
      show V.str o.str :: (ptW x ++ ptW y).map V.str = _
      rw [List.map_append]; rfl
    rw [e]
    have s6 : Sep H5 (cellA l5 (.lst ([V.str o.str] ++ (ptW x).map V.str ++ (ptW y).map V.str)) :: cellA l4 (.lst ((ptW y).map V.str)) :: cellA l3 (.lst ([V.str o.str] ++ (ptW x).map V.str)) :: cellA l2 (.lst ((ptW x).map V.str)) :: cellA l1 (.lst [V.str o.str]) :: L) := s5
    exact (s6.sel 5 [1, 2, 3, 4, 0]).tail.tail.tail.tail
end SD
set_option Elab.async false
set_option linter.all false
set_option maxRecDepth 100000
set_option maxHeartbeats 4000000
namespace SD
--@L law_k13_texts
open PySem PySem.Spec PyProof.Rows L2
local macro_rules | `(tactic| walk_at "s1") => `(tactic| first
  | with_reducible refine w_nT ?_
  | with_reducible refine w_nF ?_
  | with_reducible refine w_frzS ?_
  | with_reducible refine w_seq ?_
  | with_reducible refine w_next ?_
  | with_reducible refine w_asg ?_
  | with_reducible refine w_drop ?_
  | with_reducible refine w_ret ?_
  | with_reducible refine w_retN ?_
  | with_reducible refine w_ifs ?_
  | with_reducible refine w_par ?_
  | with_reducible refine w_c ?_
  | with_reducible refine w_nil ?_
  | with_reducible refine w_cons ?_
  | with_reducible refine w_op ?_
  | with_reducible refine w_un ?_
  | with_reducible refine w_rI0 ?_
  | with_reducible refine w_rU ?_
  | with_reducible refine w_test ?_
  | with_reducible refine w_b ?_
  | with_reducible refine w_bl ?_
  | with_reducible refine w_and ?_
  | with_reducible refine w_or ?_
  | with_reducible refine w_not ?_
  | with_reducible refine w_andV ?_
  | with_reducible refine w_orV ?_
  | with_reducible refine w_notV ?_
  | with_reducible refine w_if ?_
  | with_reducible refine w_chain ?_
  | with_reducible refine w_eqI ?_
  | with_reducible refine w_neI ?_
  | with_reducible refine w_eqS ?_
  | with_reducible refine w_neS ?_
  | with_reducible refine w_pcons ?_
  | with_reducible refine w_pnil ?_
  | with_reducible refine w_dget ?_
  | with_reducible refine w_dget2 ?_
  | with_reducible refine w_dput ?_
  | with_reducible refine w_neB ?_
  | with_reducible refine w_eqB ?_
  | with_reducible refine w_isNb ?_
  | with_reducible refine w_isNs ?_
  | with_reducible refine w_min ?_
  | with_reducible refine w_max ?_
  | with_reducible refine w_isNn ?_
  | with_reducible refine w_isNi ?_
  | with_reducible refine w_isNr ?_
  | with_reducible refine w_notNn ?_
  | with_reducible refine w_notNi ?_
  | with_reducible refine w_notNr ?_
  | with_reducible refine w_call ?_
  | with_reducible refine w_cb ?_
  | with_reducible refine w_meth ?_
  | with_reducible refine w_make ?_
  | with_reducible refine w_tup ?_
  | with_reducible refine w_lst ?_
  | with_reducible refine w_int1b ?_
  | with_reducible refine w_int1 ?_
  | with_reducible refine w_gNil ?_
  | with_reducible refine w_gCons ?_
  | with_reducible refine w_gSub ?_
  | with_reducible refine w_bm ?_
  | with_reducible refine w_sl ?_
  | with_reducible refine w_part ?_
  | with_reducible refine w_partI ?_
  | with_reducible refine w_noPart ?_
  | with_reducible refine w_for ?_
  | with_reducible refine w_lc ?_
  | with_reducible refine w_rng1 ?_
  | with_reducible refine w_iList ?_
  | with_reducible refine w_iTup ?_
  | with_reducible refine w_break ?_
  | with_reducible refine w_cont ?_
  | ((with_reducible refine' w_var ?h ?_); (case h => exact rfl))
  | ((with_reducible refine' w_gName ?h ?_); (case h => (simp only [wipe, List.set]; rfl)))
  | ((with_reducible refine' w_par2 ?h ?_); (case h => (simp only [wipe, List.set]; rfl)))
  | ((with_reducible refine' w_mod ?h ?_); (case h => omega))
  | ((with_reducible refine' w_mul ?h ?_); (case h => omega))
  | ((with_reducible refine' w_rng1I ?h ?_); (case h => omega))
  | with_reducible refine iteT ?_
  | with_reducible refine iteF ?_
  | ((with_reducible refine' iteDT ?h ?_); (case h => omega))
  | ((with_reducible refine' iteDF ?h ?_); (case h => omega))
  | ((with_reducible refine' iteNT ?h ?_); (case h => omega))
  | ((with_reducible refine' iteNF ?h ?_); (case h => omega))
  | ((with_reducible refine' iteDT ?h ?_); (case h => decide +kernel))
  | ((with_reducible refine' iteDF ?h ?_); (case h => decide +kernel))
  | ((with_reducible refine' iteNT ?h ?_); (case h => decide +kernel))
  | ((with_reducible refine' iteNF ?h ?_); (case h => decide +kernel))
  | fail "stop")
local macro_rules | `(tactic| walk_at "st") => `(tactic| (walk_at "s1"; repeat' walk_at "s1"))
/-! ### what stands behind a deed's word -/
inductive Pc where
  | nu (c : Nat) (k : Nat) | pt (p : Pt) | bs (l : List Dd) | ps (l : List Pt)
def Pc.code : Pc → Nat | .nu c _ => c | .pt _ => 120 | .bs _ => 98 | .ps _ => 112
def Pc.ws : Pc → List Str
  | .nu _ k => [nW (k : Nat)]
  | .pt p => ptW p
  | .bs l => ddsW l ++ endW
  | .ps l => nW (l.length : Nat) :: ptsW l
def Pc.ok (na nb : Nat) (prm : List Nat) (dp sz : Nat) : Pc → Prop
  | .nu c k => k < 10007 ∧ c ≠ 120 ∧ c ≠ 98 ∧ c ≠ 112
  | .pt p => p.wf na nb = true ∧ p.dp + 1 ≤ dp ∧ p.sz ≤ sz
  | .bs l => wfDs na nb prm l = true ∧ dpDs l + 1 ≤ dp ∧ szDs l ≤ sz
  | .ps l => wfPs na nb l = true ∧ dpPs l + 1 ≤ dp ∧ szPs l ≤ sz
def PcAt (K : PySem.W.Frag) (H : Hp) : Pc → V → Prop
  | .nu _ k, v => v = .int (k : Nat)
  | .pt p, v => PtAt K H p v
  | .bs l, v => ∃ a vs, v = .ref a ∧ SqT K H a vs ∧ DdsAt K H l vs
  | .ps l, v => ∃ a vs, v = .ref a ∧ SqT K H a vs ∧ PtsAt K H l vs
theorem PcAt.mono {K : PySem.W.Frag} {H H' : Hp} {q : Pc} {v : V} (i : Imm H H') (h : PcAt K H q v) : PcAt K H' q v := by
  cases q with
  | nu c k => exact h
  | pt p => exact PtAt.mono i h
  | bs l => obtain ⟨a, vs, e, h1, h2⟩ := h; exact ⟨a, vs, e, i.t h1, h2.mono i⟩
  | ps l => obtain ⟨a, vs, e, h1, h2⟩ := h; exact ⟨a, vs, e, i.t h1, h2.mono i⟩
def Dd.word : Dd → Str
  | .set _ _ => "set" | .put _ _ => "put" | .say _ => "say" | .iff _ _ _ => "if" | .again _ _ => "again" | .call _ _ _ => "call" | .ret _ => "return"
def Dd.shape : Dd → Str
  | .set _ _ => "kx" | .put _ _ => "cx" | .say _ => "x" | .iff _ _ _ => "xbb" | .again _ _ => "xb" | .call _ _ _ => "fpk" | .ret _ => "x"
def Dd.pcs : Dd → List Pc
  | .set k x => [.nu 107 k, .pt x]
  | .put k x => [.nu 99 k, .pt x]
  | .say x => [.pt x]
  | .iff x b c => [.pt x, .bs b, .bs c]
  | .again x b => [.pt x, .bs b]
  | .call f xs k => [.nu 102 f, .ps xs, .nu 107 k]
  | .ret x => [.pt x]
def pcsW : List Pc → List Str
  | [] => []
  | q :: r => q.ws ++ pcsW r
theorem Dd.tab (d : Dd) : tabD d.word = some (.str d.shape) := by cases d <;> kernel_rfl
theorem Dd.shapes (d : Dd) : d.shape.cps.toList = d.pcs.map Pc.code := by cases d <;> rfl
theorem Dd.words (d : Dd) : ddW d = d.word :: pcsW d.pcs := by
  cases d <;> simp [ddW, Dd.word, Dd.pcs, pcsW, Pc.ws]
def PcsAt (K : PySem.W.Frag) (H : Hp) : List Pc → List V → Prop
  | [], vs => vs = []
  | q :: r, vs => ∃ v s, vs = v :: s ∧ PcAt K H q v ∧ PcsAt K H r s
theorem PcsAt.len {K : PySem.W.Frag} {H : Hp} : ∀ {q : List Pc} {v : List V}, PcsAt K H q v → v.length = q.length
  | [], v, h => by rw [show v = [] from h]; rfl
  | q :: r, v, ⟨a, s, e, h, h1⟩ => by rw [e, List.length_cons, List.length_cons, PcsAt.len h1]
theorem PcsAt.get {K : PySem.W.Frag} {H : Hp} : ∀ {q : List Pc} {v : List V} {i : Nat} {x : V}, PcsAt K H q v → v[i]? = some x → ∃ y, q[i]? = some y ∧ PcAt K H y x
  | [], v, i, x, h, e => by rw [show v = [] from h] at e; simp at e
  | q :: r, v, 0, x, ⟨a, s, ev, h, h1⟩, e => by rw [ev] at e; simp at e; subst e; exact ⟨q, rfl, h⟩
  | q :: r, v, i + 1, x, ⟨a, s, ev, h, h1⟩, e => by rw [ev] at e; exact PcsAt.get (i := i) h1 (by simpa using e)
theorem ddAt_pcs {K : PySem.W.Frag} {H : Hp} {d : Dd} {v : V} (h : DdAt K H d v) : ∃ a its, v = .ref a ∧ SqT K H a (.str d.word :: its) ∧ PcsAt K H d.pcs its := by
  cases d with
  | set k x => obtain ⟨a, vx, e, h, h1⟩ := h; exact ⟨a, _, e, h, _, _, rfl, rfl, _, _, rfl, h1, rfl⟩
  | put k x => obtain ⟨a, vx, e, h, h1⟩ := h; exact ⟨a, _, e, h, _, _, rfl, rfl, _, _, rfl, h1, rfl⟩
  | say x => obtain ⟨a, vx, e, h, h1⟩ := h; exact ⟨a, _, e, h, _, _, rfl, h1, rfl⟩
  | iff x b c => obtain ⟨a, vx, vb, vc, bs, cs, e, h, h1, h2, h3, h4, h5⟩ := h; exact ⟨a, _, e, h, _, _, rfl, h1, _, _, rfl, ⟨vb, bs, rfl, h2, h3⟩, _, _, rfl, ⟨vc, cs, rfl, h4, h5⟩, rfl⟩
  | again x b => obtain ⟨a, vx, vb, bs, e, h, h1, h2, h3⟩ := h; exact ⟨a, _, e, h, _, _, rfl, h1, _, _, rfl, ⟨vb, bs, rfl, h2, h3⟩, rfl⟩
  | call f xs k => obtain ⟨a, vp, ps, e, h, h1, h2⟩ := h; exact ⟨a, _, e, h, _, _, rfl, rfl, _, _, rfl, ⟨vp, ps, rfl, h1, h2⟩, _, _, rfl, rfl, rfl⟩
  | ret x => obtain ⟨a, vx, e, h, h1⟩ := h; exact ⟨a, _, e, h, _, _, rfl, h1, rfl⟩
theorem pcs_ok {na nb : Nat} {prm : List Nat} (ha : na ≤ 10007) (hb : nb ≤ 10007) (hp : prm.length ≤ 10007) {d : Dd} (hw : d.wf na nb prm = true) : ∀ q ∈ d.pcs, q.ok na nb prm d.dp d.sz := by
  cases d with
  | set k x =>
    simp [Dd.wf] at hw
    intro q hq; simp [Dd.pcs] at hq
    rcases hq with rfl | rfl
    · exact ⟨by omega, by decide, by decide, by decide⟩
    · exact ⟨hw.2, by show x.dp + 1 ≤ 1 + x.dp; omega, by show x.sz ≤ 1 + x.sz; omega⟩
  | put k x =>
    simp [Dd.wf] at hw
    intro q hq; simp [Dd.pcs] at hq
    rcases hq with rfl | rfl
    · exact ⟨by omega, by decide, by decide, by decide⟩
    · exact ⟨hw.2, by show x.dp + 1 ≤ 1 + x.dp; omega, by show x.sz ≤ 1 + x.sz; omega⟩
  | say x =>
    intro q hq; simp [Dd.pcs] at hq; subst hq
    exact ⟨hw, by show x.dp + 1 ≤ 1 + x.dp; omega, by show x.sz ≤ 1 + x.sz; omega⟩
  | iff x b c =>
    simp [Dd.wf] at hw
    intro q hq; simp [Dd.pcs] at hq
    have e1 : (Dd.iff x b c).dp = 1 + max x.dp (max (dpDs b) (dpDs c)) := rfl
    have e2 : (Dd.iff x b c).sz = 1 + x.sz + szDs b + szDs c := rfl
    rcases hq with rfl | rfl | rfl
    · exact ⟨hw.1, by rw [e1]; omega, by rw [e2]; omega⟩
    · exact ⟨hw.2.1, by rw [e1]; omega, by rw [e2]; omega⟩
    · exact ⟨hw.2.2, by rw [e1]; omega, by rw [e2]; omega⟩
  | again x b =>
    simp [Dd.wf] at hw
    intro q hq; simp [Dd.pcs] at hq
    have e1 : (Dd.again x b).dp = 1 + max x.dp (dpDs b) := rfl
    have e2 : (Dd.again x b).sz = 1 + x.sz + szDs b := rfl
    rcases hq with rfl | rfl
    · exact ⟨hw.1, by rw [e1]; omega, by rw [e2]; omega⟩
    · exact ⟨hw.2, by rw [e1]; omega, by rw [e2]; omega⟩
  | call f xs k =>
    have hw : (decide (prm[f]? = some xs.length) && (decide (k < na) && wfPs na nb xs)) = true := hw
    rw [Bool.and_eq_true, Bool.and_eq_true, decide_eq_true_eq, decide_eq_true_eq] at hw
    have hf : f < prm.length := (List.getElem?_eq_some_iff.mp hw.1).1
    intro q hq; simp [Dd.pcs] at hq
    have e1 : (Dd.call f xs k).dp = 1 + dpPs xs := rfl
    have e2 : (Dd.call f xs k).sz = 1 + szPs xs := rfl
    rcases hq with rfl | rfl | rfl
    · exact ⟨by omega, by decide, by decide, by decide⟩
    · exact ⟨hw.2.2, by rw [e1]; omega, by rw [e2]; omega⟩
    · exact ⟨by omega, by decide, by decide, by decide⟩
  | ret x =>
    intro q hq; simp [Dd.pcs] at hq; subst hq
    exact ⟨hw, by show x.dp + 1 ≤ 1 + x.dp; omega, by show x.sz ≤ 1 + x.sz; omega⟩
theorem pcsW_len {na nb : Nat} {prm : List Nat} {dp sz : Nat} {q : Pc} (h : q.ok na nb prm dp sz) : q.ws.length ≤ 4 * sz + 2 := by
  cases q with
  | nu c k => show 1 ≤ _; omega
  | pt p => show (ptW p).length ≤ _; rw [ptW_len]; have := h.2.2; omega
  | bs l => show (ddsW l ++ endW).length ≤ _; rw [List.length_append]; have := ddsW_len l; have := h.2.2; show _ + 1 ≤ _; omega
  | ps l => show (ptsW l).length + 1 ≤ _; rw [ptsW_len]; have := h.2.2; omega
theorem pcsW_snoc : ∀ (l : List Pc) (q : Pc), pcsW (l ++ [q]) = pcsW l ++ q.ws
  | [], q => by show q.ws ++ [] = [] ++ q.ws; rw [List.append_nil]; rfl
  | x :: r, q => by show x.ws ++ pcsW (r ++ [q]) = (x.ws ++ pcsW r) ++ q.ws; rw [pcsW_snoc r q, List.append_assoc]
theorem ddsW_snoc : ∀ (l : List Dd) (q : Dd), ddsW (l ++ [q]) = ddsW l ++ ddW q
  | [], q => by show ddW q ++ [] = [] ++ ddW q; rw [List.append_nil]; rfl
  | x :: r, q => by show ddW x ++ ddsW (r ++ [q]) = (ddW x ++ ddsW r) ++ ddW q; rw [ddsW_snoc r q, List.append_assoc]
theorem ptsW_snoc : ∀ (l : List Pt) (q : Pt), ptsW (l ++ [q]) = ptsW l ++ ptW q
  | [], q => by show ptW q ++ [] = [] ++ ptW q; rw [List.append_nil]; rfl
  | x :: r, q => by show ptW x ++ ptsW (r ++ [q]) = (ptW x ++ ptsW r) ++ ptW q; rw [ptsW_snoc r q, List.append_assoc]
end SD
set_option Elab.async false
set_option linter.all false
set_option maxRecDepth 100000
set_option maxHeartbeats 4000000
namespace SD
--@L law_k13_texts
open PySem PySem.Spec PyProof.Rows L2
local macro_rules | `(tactic| walk_at "s1") => `(tactic| first
  | with_reducible refine w_nT ?_
  | with_reducible refine w_nF ?_
  | with_reducible refine w_frzS ?_
  | with_reducible refine w_seq ?_
  | with_reducible refine w_next ?_
  | with_reducible refine w_asg ?_
  | with_reducible refine w_drop ?_
  | with_reducible refine w_ret ?_
  | with_reducible refine w_retN ?_
  | with_reducible refine w_ifs ?_
  | with_reducible refine w_par ?_
  | with_reducible refine w_c ?_
  | with_reducible refine w_nil ?_
  | with_reducible refine w_cons ?_
  | with_reducible refine w_op ?_
  | with_reducible refine w_un ?_
  | with_reducible refine w_rI0 ?_
  | with_reducible refine w_rU ?_
  | with_reducible refine w_test ?_
  | with_reducible refine w_b ?_
  | with_reducible refine w_bl ?_
  | with_reducible refine w_and ?_
  | with_reducible refine w_or ?_
  | with_reducible refine w_not ?_
  | with_reducible refine w_andV ?_
  | with_reducible refine w_orV ?_
  | with_reducible refine w_notV ?_
  | with_reducible refine w_if ?_
  | with_reducible refine w_chain ?_
  | with_reducible refine w_eqI ?_
  | with_reducible refine w_neI ?_
  | with_reducible refine w_eqS ?_
  | with_reducible refine w_neS ?_
  | with_reducible refine w_pcons ?_
  | with_reducible refine w_pnil ?_
  | with_reducible refine w_dget ?_
  | with_reducible refine w_dget2 ?_
  | with_reducible refine w_dput ?_
  | with_reducible refine w_neB ?_
  | with_reducible refine w_eqB ?_
  | with_reducible refine w_isNb ?_
  | with_reducible refine w_isNs ?_
  | with_reducible refine w_min ?_
  | with_reducible refine w_max ?_
  | with_reducible refine w_isNn ?_
  | with_reducible refine w_isNi ?_
  | with_reducible refine w_isNr ?_
  | with_reducible refine w_notNn ?_
  | with_reducible refine w_notNi ?_
  | with_reducible refine w_notNr ?_
  | with_reducible refine w_call ?_
  | with_reducible refine w_cb ?_
  | with_reducible refine w_meth ?_
  | with_reducible refine w_make ?_
  | with_reducible refine w_tup ?_
  | with_reducible refine w_lst ?_
  | with_reducible refine w_int1b ?_
  | with_reducible refine w_int1 ?_
  | with_reducible refine w_gNil ?_
  | with_reducible refine w_gCons ?_
  | with_reducible refine w_gSub ?_
  | with_reducible refine w_bm ?_
  | with_reducible refine w_sl ?_
  | with_reducible refine w_part ?_
  | with_reducible refine w_partI ?_
  | with_reducible refine w_noPart ?_
  | with_reducible refine w_for ?_
  | with_reducible refine w_lc ?_
  | with_reducible refine w_rng1 ?_
  | with_reducible refine w_iList ?_
  | with_reducible refine w_iTup ?_
  | with_reducible refine w_break ?_
  | with_reducible refine w_cont ?_
  | ((with_reducible refine' w_var ?h ?_); (case h => exact rfl))
  | ((with_reducible refine' w_gName ?h ?_); (case h => (simp only [wipe, List.set]; rfl)))
  | ((with_reducible refine' w_par2 ?h ?_); (case h => (simp only [wipe, List.set]; rfl)))
  | ((with_reducible refine' w_mod ?h ?_); (case h => omega))
  | ((with_reducible refine' w_mul ?h ?_); (case h => omega))
  | ((with_reducible refine' w_rng1I ?h ?_); (case h => omega))
  | with_reducible refine iteT ?_
  | with_reducible refine iteF ?_
  | ((with_reducible refine' iteDT ?h ?_); (case h => omega))
  | ((with_reducible refine' iteDF ?h ?_); (case h => omega))
  | ((with_reducible refine' iteNT ?h ?_); (case h => omega))
  | ((with_reducible refine' iteNF ?h ?_); (case h => omega))
  | ((with_reducible refine' iteDT ?h ?_); (case h => decide +kernel))
  | ((with_reducible refine' iteDF ?h ?_); (case h => decide +kernel))
  | ((with_reducible refine' iteNT ?h ?_); (case h => decide +kernel))
  | ((with_reducible refine' iteNF ?h ?_); (case h => decide +kernel))
  | fail "stop")
local macro_rules | `(tactic| walk_at "st") => `(tactic| (walk_at "s1"; repeat' walk_at "s1"))
/-! ### body_words -/
theorem zip_key {K : PySem.W.Frag} {w : World} {σ : L2.St} {H : Hp} {d a : Addr} {f : Str → Option V} {wd sh : Str} {its : List V} {i : Nat} {r : TA} {g : TG} {tb : TS} {D : Ends} (T : KTab K w d f) (e : f wd = some (.str sh)) (hσ : σ[i]? = some (some (.ref a))) (ht : SqT K H a (.str wd :: its))
    (h : tFor (iZipST K (tCons (tC (.str sh)) r)) g tb D σ H) : iZipST K (tCons (tOp (rKItem K w) (tC (.ref d)) (tOp (rIxT K) (tVar i) (tC (.int 0)))) r) σ H (KFor g tb D σ) :=
  ⟨_, hσ, _, _, 0, _, rfl, rfl, ht, atI0, _, _, _, _, rfl, rfl, T, e, h⟩
theorem w_extend {a b : Addr} {xs zs : List V} {H : Hp} {Q : VK} (f : H a = some (.lst xs)) (g : H b = some (.lst zs)) (n : xs.length + zs.length ≤ 1000) (h : Q .non (upd H a (.lst (xs ++ zs)))) : rExtend (.ref a) [.ref b] H Q := ⟨a, b, xs, zs, rfl, rfl, f, g, small n, h⟩
def sp_body_words (n : Nat) (K : PySem.W.Frag) (w : World) : Sp := fun vs H Q _ => ∃ (a : Addr) (bs : List V) (b : List Dd) (na nb : Nat) (prm : List Nat) (L : List As), vs = [.ref a] ∧ dpDs b < n ∧ dpDs b ≤ 8 ∧ SqT K H a bs ∧ DdsAt K H b bs ∧ wfDs na nb prm b = true ∧ na ≤ 10007 ∧ nb ≤ 10007 ∧ prm.length ≤ 10007 ∧ szDs b ≤ 100 ∧ Sep H L ∧
  ∀ H' l, Imm H H' → Sep H' (cellA l (.lst ((ddsW b ++ endW).map V.str)) :: L) → Q (.ref l) H'
theorem pcsW_app : ∀ (l m : List Pc), pcsW (l ++ m) = pcsW l ++ pcsW m
  | [], m => rfl
  | x :: r, m => by show x.ws ++ pcsW (r ++ m) = (x.ws ++ pcsW r) ++ pcsW m; rw [pcsW_app r m, List.append_assoc]
theorem szPs_len : ∀ l : List Pt, l.length ≤ szPs l
  | [] => Nat.le_refl _
  | p :: r => by
    have := szPt_pos p
    have := szPs_len r
    show r.length + 1 ≤ p.sz + szPs r
    omega
theorem szDs_le1 {d : Dd} {b : List Dd} {i : Nat} (e : b[i]? = some d) : szDs (b.take i) + d.sz ≤ szDs b := by
  rw [← szDs_take e]; exact szDs_le b (i + 1)
abbrev n_f_body_words : List Str := ["body", "found", "deed", "kind", "part", "one"]
def t_f_body_words (K : PySem.W.Frag) (w : World) (n : Nat) : TS :=
 (tSeq (tAsg (tLst tNil) (gName 1))
 (tSeq (tFor (iTup K (tVar 0)) (gName 2) (tSeq (tDrop (tBM K "list" rAppend (tVar 1) (tCons (tOp (rIxT K) (tVar 2) (tC (.int 0))) tNil)))
 (tFor (iZipST K (tCons (tOp (rKItem K w) (tC (.ref (He.ga K "DEEDS"))) (tOp (rIxT K) (tVar 2) (tC (.int 0)))) (tCons (tSl (rSlT K) (tVar 2) (tPart (tC (.int 1))) tNoPart) tNil))) (gTup K 2 (gCons (gName 3) (gCons (gName 4) gNil))) (tIfS (tTest (tOp rEq (tVar 3) (tC (.str "x")))) (tDrop (tBM K "list" rExtend (tVar 1) (tCons (tCall (sp_part_words 8 K w) [] E0 (tCons (tVar 4) tNil)) tNil))) (tIfS (tTest (tOp rEq (tVar 3) (tC (.str "b")))) (tDrop (tBM K "list" rExtend (tVar 1) (tCons (tCall (sp_body_words n K w) [] E0 (tCons (tVar 4) tNil)) tNil))) (tIfS (tTest (tOp rEq (tVar 3) (tC (.str "p")))) (tSeq (tDrop (tBM K "list" rAppend (tVar 1) (tCons (tCB rStrInt (tCons (tCB (rLenS' K) (tCons (tVar 4) tNil)) tNil)) tNil)))
 (tFor (iTup K (tVar 4)) (gName 5) (tDrop (tBM K "list" rExtend (tVar 1) (tCons (tCall (sp_part_words 8 K w) [] E0 (tCons (tVar 5) tNil)) tNil))))) (tDrop (tBM K "list" rAppend (tVar 1) (tCons (tCB rStrInt (tCons (tVar 4) tNil)) tNil)))))))))
 (tRet (tOp rCat (tVar 1) (tLst (tCons (tC (.str "end")) tNil))))))
theorem st_f_body_words {x0 : V} : start n_f_body_words [x0] = [some x0, none, none, none, none, none] := rfl
theorem pu_f_body_words {K : PySem.W.Frag} {w : World} (T : Tb K w) (n : Nat) (vs : List V) (H : Hp) (Q : VK) (E : XK) (h : sp_body_words (n + 1) K w vs H Q E) : t_f_body_words K w n { nx := fun _ H' => Q .non H', rt := Q } (start n_f_body_words vs) H := by
  obtain ⟨a, bs, b, na, nb, prm, L, rfl, hd, hd8, ht, hb, hw, hna, hnb, hprm, hz, h0, q⟩ := h
  have hlen := hb.len
  rw [st_f_body_words]
  unfold t_f_body_words
  walk_at "st"
  refine k_lst (xs := []) h0 fun l H1 i1 h1 => ?_
  walk_at "st"
  refine w_itt (i1.t ht) ?_
  refine k_forT (xs := bs) (fun i σ H2 => ∃ x2 x3 x4 x5, σ = [some (.ref a), some (.ref l), x2, x3, x4, x5] ∧ Imm H H2 ∧ Sep H2 (cellA l (.lst ((ddsW (b.take i)).map V.str)) :: L))
    ⟨_, _, _, _, rfl, i1, h1⟩ (fun i σ H2 _ hP => by obtain ⟨_, _, _, _, _, im, _⟩ := hP; exact im.t ht) (fun i u σ H2 hi hu hP => ?_) fun σ H2 hP => ?_
  · obtain ⟨x2, x3, x4, x5, rfl, i2, h2⟩ := hP
    obtain ⟨d, ed, hdd⟩ := hb.get hu
    have hdw := wfDs_get hw ed
    have hddp := dpDs_get ed
    have hsz := szDs_le1 ed
    have hsz0 := szDd_pos d
    have hwl := ddsW_len (b.take i)
    have hdl := ddW_len d
    obtain ⟨ta, its, rfl, f2, pcs⟩ := ddAt_pcs (hdd.mono i2)
    have hok := pcs_ok hna hnb hprm hdw
    have hpl := pcs.len
    walk_at "st"
    refine w_tyL (SqL.of h2.cell) ?_
    walk_at "st"
    refine w_ixT f2 (atI_nat (j := 0) (v := .str d.word) rfl) ?_
    walk_at "st"
    refine w_append h2.cell (by rw [List.length_map]; omega) ?_
    have h3 := h2.set (o' := .lst ((ddsW (b.take i)).map V.str ++ [.str d.word])) rfl
    have i3 := h2.imm (o' := .lst ((ddsW (b.take i)).map V.str ++ [.str d.word])) rfl
    have e3 : (ddsW (b.take i)).map V.str ++ [V.str d.word] = (ddsW (b.take i) ++ [d.word] ++ pcsW (d.pcs.take 0)).map V.str := by
      show _ = (ddsW (b.take i) ++ [d.word] ++ []).map V.str
      rw [List.append_nil, List.map_append]; rfl
    rw [e3] at h3 i3 ⊢
    generalize upd H2 l (.lst ((ddsW (b.take i) ++ [d.word] ++ pcsW (d.pcs.take 0)).map V.str)) = H3 at h3 i3 ⊢
    have hcs : d.shape.cps.size = its.length := by
      have := congrArg List.length d.shapes
      rw [List.length_map, Array.length_toList] at this
      rw [this, hpl]
    walk_at "st"
    refine zip_key T.deeds d.tab rfl (i3.t f2) ?_
    refine for_zipTail (ta := ta) (x := .str d.word) (its := its) (j := 2) (i6 := 3) (i7 := 4) rfl (i3.t f2) hcs
      (fun k σ H4 => ∃ y3 y4 y5, σ = [some (.ref a), some (.ref l), some (.ref ta), y3, y4, y5] ∧ Imm H2 H4 ∧ Sep H4 (cellA l (.lst ((ddsW (b.take i) ++ [d.word] ++ pcsW (d.pcs.take k)).map V.str)) :: L))
      (fun H4 s => ⟨_, _, _, rfl, i3.trans (.same s), h3.same s⟩) (fun k c u σ1 H4 H5 G hc hu hP s5 hG => ?_) fun σ1 H4 hP => ?_
    · obtain ⟨y3, y4, y5, rfl, i4, h4⟩ := hP
      have h5 := h4.same s5
      have i5 := i4.trans (Imm.same s5)
      obtain ⟨pc, epc, hpc⟩ := pcs.get hu
      have hpc := hpc.mono i5
      have hpok := hok pc (List.mem_of_getElem? epc)
      have hk4 : k < 4 := by
        have := (List.getElem?_eq_some_iff.mp epc).1
        have : d.pcs.length ≤ 3 := by cases d <;> simp [Dd.pcs]
        omega
      have hcc : c = pc.code := by
        have e : (d.pcs.map Pc.code)[k]? = some c := by rw [← d.shapes]; simpa using hc
        rw [List.getElem?_map, epc] at e
        exact (Option.some.inj e).symm
      have hpl2 : (pcsW (d.pcs.take k)).length ≤ 4 * d.sz := by
        have e1 : pcsW d.pcs = pcsW (d.pcs.take k) ++ pcsW (d.pcs.drop k) := by
          rw [← pcsW_app, List.take_append_drop]
        have e2 := congrArg List.length d.words
        rw [e1] at e2
        simp only [List.length_cons, List.length_append] at e2
        omega
      have fin : ∀ H6, Imm H5 H6 → Sep H6 (cellA l (.lst ((ddsW (b.take i) ++ [d.word] ++ pcsW (d.pcs.take k)).map V.str ++ pc.ws.map V.str)) :: L) → Sep H6 (cellA l (.lst ((ddsW (b.take i) ++ [d.word] ++ pcsW (d.pcs.take (k + 1))).map V.str)) :: L) := fun H6 _ hS => by
        rw [take_snoc epc, pcsW_snoc, ← List.append_assoc, List.map_append]; exact hS
      have hl1 : ((ddsW (b.take i) ++ [d.word] ++ pcsW (d.pcs.take k)).map V.str).length ≤ 405 := by
        rw [List.length_map]; simp only [List.length_append, List.length_cons, List.length_nil]; omega
      generalize (ddsW (b.take i) ++ [d.word] ++ pcsW (d.pcs.take k)).map V.str = W0 at h5 fin hl1
      subst hcc
      cases pc with
      | nu cc kk =>
        obtain ⟨n0, n1, n2, n3⟩ := hpok
        have hpc : u = .int (kk : Nat) := hpc
        subst hpc
        have e1 : decide ((⟨#[cc]⟩ : Str) = "x") = false := decide_eq_false fun e => n1 (by have e : (⟨#[cc]⟩ : Str) = ⟨#[120]⟩ := e; injection e with e; injection e with e; injection e)
        have e2 : decide ((⟨#[cc]⟩ : Str) = "b") = false := decide_eq_false fun e => n2 (by have e : (⟨#[cc]⟩ : Str) = ⟨#[98]⟩ := e; injection e with e; injection e with e; injection e)
        have e3 : decide ((⟨#[cc]⟩ : Str) = "p") = false := decide_eq_false fun e => n3 (by have e : (⟨#[cc]⟩ : Str) = ⟨#[112]⟩ := e; injection e with e; injection e with e; injection e)
        show (tIfS _ _ _) _ [some (.ref a), some (.ref l), some (.ref ta), some (.str ⟨#[cc]⟩), some (.int (kk : Nat)), y5] H5
        walk_at "st"
        rw [e1]
        walk_at "st"
        rw [e2]
        walk_at "st"
        rw [e3]
        walk_at "st"
        refine w_tyL (SqL.of h5.cell) ?_
        walk_at "st"
        refine w_strI (by omega) (by omega) ?_
        walk_at "st"
        refine w_append h5.cell (by omega) ?_
        exact ⟨⟨_, _, _, rfl, i5.trans (h5.imm rfl), fin _ (h5.imm rfl) (h5.set rfl)⟩, hG _ (h5.imm rfl)⟩
      | pt p =>
        obtain ⟨n1, n2, n3⟩ := hpok
        show (tIfS _ _ _) _ [some (.ref a), some (.ref l), some (.ref ta), some (.str ⟨#[120]⟩), some u, y5] H5
        walk_at "st"
        refine w_tyL (SqL.of h5.cell) ?_
        walk_at "st"
        refine ⟨u, p, na, nb, _, rfl, by omega, hpc, n1, hna, hnb, by omega, h5, fun H6 l6 i6 h6 => ?_⟩
        have := ptW_len p
        walk_at "st"
        refine w_extend (h6.pull 1 rfl).cell h6.cell (by rw [List.length_map]; omega) ?_
        have h7 := h6.swap
        have h8 := (h7.set (o' := .lst (W0 ++ (ptW p).map V.str)) rfl).swap.tail
        have i8 := i6.trans (h7.imm (o' := .lst (W0 ++ (ptW p).map V.str)) rfl)
        exact ⟨⟨_, _, _, rfl, i5.trans i8, fin _ i8 h8⟩, hG _ i8⟩
      | bs y =>
        obtain ⟨n1, n2, n3⟩ := hpok
        obtain ⟨ba, bvs, rfl, g1, g2⟩ := hpc
        show (tIfS _ _ _) _ [some (.ref a), some (.ref l), some (.ref ta), some (.str ⟨#[98]⟩), some (.ref ba), y5] H5
        walk_at "st"
        refine w_tyL (SqL.of h5.cell) ?_
        walk_at "st"
        refine ⟨ba, bvs, y, na, nb, prm, _, rfl, by omega, by omega, g1, g2, n1, hna, hnb, hprm, by omega, h5, fun H6 l6 i6 h6 => ?_⟩
        have := ddsW_len y
        walk_at "st"
        refine w_extend (h6.pull 1 rfl).cell h6.cell (by rw [List.length_map, List.length_append]; show _ + (_ + 1) ≤ 1000; omega) ?_
        have h7 := h6.swap
        have h8 := (h7.set (o' := .lst (W0 ++ (ddsW y ++ endW).map V.str)) rfl).swap.tail
        have i8 := i6.trans (h7.imm (o' := .lst (W0 ++ (ddsW y ++ endW).map V.str)) rfl)
        exact ⟨⟨_, _, _, rfl, i5.trans i8, fin _ i8 h8⟩, hG _ i8⟩
      | ps y =>
        obtain ⟨n1, n2, n3⟩ := hpok
        obtain ⟨ba, bvs, rfl, g1, g2⟩ := hpc
        have hyl := szPs_len y
        have hgl := g2.len
        show (tIfS _ _ _) _ [some (.ref a), some (.ref l), some (.ref ta), some (.str ⟨#[112]⟩), some (.ref ba), y5] H5
        walk_at "st"
        refine w_tyL (SqL.of h5.cell) ?_
        walk_at "st"
        refine w_lenT g1 ?_
        walk_at "st"
        rw [hgl]
        refine w_strI (by omega) (by omega) ?_
        walk_at "st"
        refine w_append h5.cell (by omega) ?_
        have h6 := h5.set (o' := .lst (W0 ++ [.str (nW (y.length : Nat))])) rfl
        have i6 := h5.imm (o' := .lst (W0 ++ [.str (nW (y.length : Nat))])) rfl
        generalize upd H5 l (.lst (W0 ++ [.str (nW (y.length : Nat))])) = H6 at h6 i6 ⊢
        walk_at "st"
        refine w_itt (i6.t g1) ?_
        refine k_forT (xs := bvs) (fun m σ H7 => ∃ z5, σ = [some (.ref a), some (.ref l), some (.ref ta), some (.str ⟨#[112]⟩), some (.ref ba), z5] ∧ Imm H5 H7 ∧ Sep H7 (cellA l (.lst (W0 ++ [.str (nW (y.length : Nat))] ++ (ptsW (y.take m)).map V.str)) :: L))
          ⟨_, rfl, i6, by simpa [ptsW] using h6⟩ (fun m σ H7 _ hP => by obtain ⟨_, _, im, _⟩ := hP; exact im.t g1) (fun m u2 σ H7 hm hu2 hP => ?_) fun σ H7 hP => ?_
        · obtain ⟨z5, rfl, i7, h7⟩ := hP
          obtain ⟨pp, ep, hpp⟩ := g2.get hu2
          have w1 := wfPs_get n1 ep
          have w2 := dpPs_get ep
          have w3 := szPs_take ep
          have w4 := szPs_le y (m + 1)
          have e1 := ptsW_len (y.take m)
          have e2 := ptW_len pp
          walk_at "st"
          refine w_tyL (SqL.of h7.cell) ?_
          walk_at "st"
          refine ⟨u2, pp, na, nb, _, rfl, by omega, hpp.mono i7, w1, hna, hnb, by omega, h7, fun H8 l8 i8 h8 => ?_⟩
          walk_at "st"
          refine w_extend (h8.pull 1 rfl).cell h8.cell (by simp only [List.length_map, List.length_append, List.length_cons, List.length_nil]; omega) ?_
          have h9 := h8.swap
          have h10 := (h9.set (o' := .lst (W0 ++ [.str (nW (y.length : Nat))] ++ (ptsW (y.take m)).map V.str ++ (ptW pp).map V.str)) rfl).swap.tail
          have i10 := i8.trans (h9.imm (o' := .lst (W0 ++ [.str (nW (y.length : Nat))] ++ (ptsW (y.take m)).map V.str ++ (ptW pp).map V.str)) rfl)
          refine ⟨_, rfl, i7.trans i10, ?_⟩
          rw [take_snoc ep, ptsW_snoc, List.map_append, ← List.append_assoc]
          exact h10
        · obtain ⟨z5, rfl, i7, h7⟩ := hP
          rw [hgl, List.take_length] at h7
          refine ⟨⟨_, _, _, rfl, i5.trans i7, fin _ i7 ?_⟩, hG _ i7⟩
          show Sep H7 (cellA l (.lst (W0 ++ (V.str (nW (y.length : Nat)) :: (ptsW y).map V.str))) :: L)
          rw [List.append_assoc] at h7
          exact h7
    · obtain ⟨y3, y4, y5, rfl, i4, h4⟩ := hP
      refine ⟨_, _, _, _, rfl, i2.trans i4, ?_⟩
      rw [hpl, List.take_length] at h4
      rw [take_snoc ed, ddsW_snoc, d.words]
      rw [List.append_assoc] at h4
      exact h4
  · obtain ⟨x2, x3, x4, x5, rfl, i2, h2⟩ := hP
    rw [hlen, List.take_length] at h2
    walk_at "st"
    have e1 := ddsW_len b
    refine k_lst h2 fun l2 H3 i3 h3 => ?_
    refine w_cat h3 (h3.pull 1 rfl).cell h3.cell (small (by simp only [List.length_map, List.length_cons, List.length_nil]; omega)) fun l3 H4 i4 h4 => ?_
    refine q H4 l3 (i2.trans (i3.trans i4)) ?_
    rw [List.map_append]
    have h5 : Sep H4 (cellA l3 (.lst ((ddsW b).map V.str ++ [.str "end"])) :: cellA l2 (.lst [.str "end"]) :: cellA l (.lst ((ddsW b).map V.str)) :: L) := h4
    exact (h5.sel 3 [1, 2, 0]).tail.tail
end SD
set_option Elab.async false
set_option linter.all false
set_option maxRecDepth 100000
set_option maxHeartbeats 4000000
namespace SD
--@L law_k13_texts
open PySem PySem.Spec PyProof.Rows L2
local macro_rules | `(tactic| walk_at "s1") => `(tactic| first
  | with_reducible refine w_nT ?_
  | with_reducible refine w_nF ?_
  | with_reducible refine w_frzS ?_
  | with_reducible refine w_seq ?_
  | with_reducible refine w_next ?_
  | with_reducible refine w_asg ?_
  | with_reducible refine w_drop ?_
  | with_reducible refine w_ret ?_
  | with_reducible refine w_retN ?_
  | with_reducible refine w_ifs ?_
  | with_reducible refine w_par ?_
  | with_reducible refine w_c ?_
  | with_reducible refine w_nil ?_
  | with_reducible refine w_cons ?_
  | with_reducible refine w_op ?_
  | with_reducible refine w_un ?_
  | with_reducible refine w_rI0 ?_
  | with_reducible refine w_rU ?_
  | with_reducible refine w_test ?_
  | with_reducible refine w_b ?_
  | with_reducible refine w_bl ?_
  | with_reducible refine w_and ?_
  | with_reducible refine w_or ?_
  | with_reducible refine w_not ?_
  | with_reducible refine w_andV ?_
  | with_reducible refine w_orV ?_
  | with_reducible refine w_notV ?_
  | with_reducible refine w_if ?_
  | with_reducible refine w_chain ?_
  | with_reducible refine w_eqI ?_
  | with_reducible refine w_neI ?_
  | with_reducible refine w_eqS ?_
  | with_reducible refine w_neS ?_
  | with_reducible refine w_pcons ?_
  | with_reducible refine w_pnil ?_
  | with_reducible refine w_dget ?_
  | with_reducible refine w_dget2 ?_
  | with_reducible refine w_dput ?_
  | with_reducible refine w_neB ?_
  | with_reducible refine w_eqB ?_
  | with_reducible refine w_isNb ?_
  | with_reducible refine w_isNs ?_
  | with_reducible refine w_min ?_
  | with_reducible refine w_max ?_
  | with_reducible refine w_isNn ?_
  | with_reducible refine w_isNi ?_
  | with_reducible refine w_isNr ?_
  | with_reducible refine w_notNn ?_
  | with_reducible refine w_notNi ?_
  | with_reducible refine w_notNr ?_
  | with_reducible refine w_call ?_
  | with_reducible refine w_cb ?_
  | with_reducible refine w_meth ?_
  | with_reducible refine w_make ?_
  | with_reducible refine w_tup ?_
  | with_reducible refine w_lst ?_
  | with_reducible refine w_int1b ?_
  | with_reducible refine w_int1 ?_
  | with_reducible refine w_gNil ?_
  | with_reducible refine w_gCons ?_
  | with_reducible refine w_gSub ?_
  | with_reducible refine w_bm ?_
  | with_reducible refine w_sl ?_
  | with_reducible refine w_part ?_
  | with_reducible refine w_partI ?_
  | with_reducible refine w_noPart ?_
  | with_reducible refine w_for ?_
  | with_reducible refine w_lc ?_
  | with_reducible refine w_rng1 ?_
  | with_reducible refine w_iList ?_
  | with_reducible refine w_iTup ?_
  | with_reducible refine w_break ?_
  | with_reducible refine w_cont ?_
  | ((with_reducible refine' w_var ?h ?_); (case h => exact rfl))
  | ((with_reducible refine' w_gName ?h ?_); (case h => (simp only [wipe, List.set]; rfl)))
  | ((with_reducible refine' w_par2 ?h ?_); (case h => (simp only [wipe, List.set]; rfl)))
  | ((with_reducible refine' w_mod ?h ?_); (case h => omega))
  | ((with_reducible refine' w_mul ?h ?_); (case h => omega))
  | ((with_reducible refine' w_rng1I ?h ?_); (case h => omega))
  | with_reducible refine iteT ?_
  | with_reducible refine iteF ?_
  | ((with_reducible refine' iteDT ?h ?_); (case h => omega))
  | ((with_reducible refine' iteDF ?h ?_); (case h => omega))
  | ((with_reducible refine' iteNT ?h ?_); (case h => omega))
  | ((with_reducible refine' iteNF ?h ?_); (case h => omega))
  | ((with_reducible refine' iteDT ?h ?_); (case h => decide +kernel))
  | ((with_reducible refine' iteDF ?h ?_); (case h => decide +kernel))
  | ((with_reducible refine' iteNT ?h ?_); (case h => decide +kernel))
  | ((with_reducible refine' iteNF ?h ?_); (case h => decide +kernel))
  | fail "stop")
local macro_rules | `(tactic| walk_at "st") => `(tactic| (walk_at "s1"; repeat' walk_at "s1"))
/-! ### written -/
def funW (f : Fn) : List Str := [("fun" : Str), nW (f.params : Nat), nW (f.names : Nat)] ++ (ddsW f.body ++ endW)
def funsW : List Fn → List Str
  | [] => []
  | f :: r => funW f ++ funsW r
def cellsW (p : Prog) : List Str := [("cells" : Str), nW (p.cells.length : Nat)] ++ p.cells.map nW
def handsW (p : Prog) : List Str := [("hands" : Str), nW (p.hands.length : Nat)] ++ p.hands.map fun n => nW (n : Nat)
def progW (p : Prog) : List Str := cellsW p ++ funsW p.funs ++ handsW p
def textOf (p : Prog) : Str := Txt.join (" " : Str) (progW p)
theorem funsW_snoc : ∀ (l : List Fn) (q : Fn), funsW (l ++ [q]) = funsW l ++ funW q
  | [], q => by show funW q ++ [] = [] ++ funW q; rw [List.append_nil]; rfl
  | x :: r, q => by show funW x ++ funsW (r ++ [q]) = (funW x ++ funsW r) ++ funW q; rw [funsW_snoc r q, List.append_assoc]
theorem funsW_len : ∀ (l : List Fn), (funsW l).length ≤ 4 * (l.map fun f => szDs f.body).sum + 4 * l.length
  | [] => Nat.zero_le _
  | f :: r => by
    have h1 := ddsW_len f.body
    have h2 := funsW_len r
    show (funW f ++ funsW r).length ≤ 4 * (szDs f.body + (r.map fun f => szDs f.body).sum) + 4 * (r.length + 1)
    unfold funW
    simp only [List.length_append, List.length_cons, List.length_nil]
    omega
/-! every word is short -/
def Short (l : List Str) : Prop := ∀ x ∈ l, x.length ≤ 8
theorem Short.app {a b : List Str} (h : Short a) (g : Short b) : Short (a ++ b) := fun x hx => (List.mem_append.mp hx).elim (h x) (g x)
theorem Short.cons {x : Str} {b : List Str} (h : x.length ≤ 8) (g : Short b) : Short (x :: b) := fun y hy => (List.mem_cons.mp hy).elim (fun e => by rw [e]; exact h) (g y)
theorem Short.nil : Short [] := fun _ h => nomatch h
theorem nW_short {i : Int} (h0 : 0 ≤ i) (h1 : i < 10007) : (nW i).length ≤ 8 := Nat.le_trans (nW_len h0 h1) (by decide)
theorem cat_len (a b : Str) : (a ++ b).length = a.length + b.length := by
  have := congrArg List.length (TL.tl_append a b)
  rw [List.length_append] at this
  show (a ++ b).cps.size = a.cps.size + b.cps.size
  rw [← Array.length_toList, ← Array.length_toList, ← Array.length_toList]
  exact this
theorem ptW_short {na nb : Nat} (ha : na ≤ 10007) (hb : nb ≤ 10007) : ∀ {p : Pt}, p.wf na nb = true → Short (ptW p)
  | .num i, h => by
    have h : (decide (0 ≤ i) && decide (i < REST)) = true := h
    rw [Bool.and_eq_true, decide_eq_true_eq, decide_eq_true_eq] at h
    exact .cons (nW_short h.1 h.2) .nil
  | .name k, h => by
    have h : decide (k < na) = true := h
    rw [decide_eq_true_eq] at h
    have := nW_len (i := (k : Nat)) (by omega) (by omega)
    refine .cons ?_ .nil
    rw [cat_len]; show 1 + _ ≤ 8; omega
  | .cell k, h => by
    have h : decide (k < nb) = true := h
    rw [decide_eq_true_eq] at h
    have := nW_len (i := (k : Nat)) (by omega) (by omega)
    refine .cons ?_ .nil
    rw [cat_len]; show 1 + _ ≤ 8; omega
  | .two o a b, h => by
    have h : (a.wf na nb && b.wf na nb) = true := h
    rw [Bool.and_eq_true] at h
    exact .cons (by cases o <;> decide +kernel) ((ptW_short ha hb h.1).app (ptW_short ha hb h.2))
theorem ptsW_short {na nb : Nat} (ha : na ≤ 10007) (hb : nb ≤ 10007) : ∀ {p : List Pt}, wfPs na nb p = true → Short (ptsW p)
  | [], _ => .nil
  | p :: r, h => by
    have h : (p.wf na nb && wfPs na nb r) = true := h
    rw [Bool.and_eq_true] at h
    exact (ptW_short ha hb h.1).app (ptsW_short ha hb h.2)
mutual
def szPs_ok : Dd → Prop
  | .call _ xs _ => xs.length ≤ 1000
  | .iff _ b c => szPs_oks b ∧ szPs_oks c
  | .again _ b => szPs_oks b
  | _ => True
def szPs_oks : List Dd → Prop
  | [] => True
  | d :: r => szPs_ok d ∧ szPs_oks r
end
mutual
theorem szPs_of : ∀ {d : Dd}, d.sz ≤ 1000 → szPs_ok d
  | .set _ _, _ => trivial
  | .put _ _, _ => trivial
  | .say _, _ => trivial
  | .ret _, _ => trivial
  | .call f xs k, h => by
    have h : 1 + szPs xs ≤ 1000 := h
    have := szPs_len xs
    show xs.length ≤ 1000; omega
  | .iff x b c, h => by
    have h : 1 + x.sz + szDs b + szDs c ≤ 1000 := h
    exact ⟨szPs_ofs (by omega), szPs_ofs (by omega)⟩
  | .again x b, h => by
    have h : 1 + x.sz + szDs b ≤ 1000 := h
    exact szPs_ofs (d := b) (by omega)
theorem szPs_ofs : ∀ {d : List Dd}, szDs d ≤ 1000 → szPs_oks d
  | [], _ => trivial
  | d :: r, h => by
    have h : d.sz + szDs r ≤ 1000 := h
    exact ⟨szPs_of (by omega), szPs_ofs (by omega)⟩
end
theorem end_short : Short endW := .cons (by decide +kernel) .nil
mutual
theorem ddW_short {na nb : Nat} {prm : List Nat} (ha : na ≤ 10007) (hb : nb ≤ 10007) (hp : prm.length ≤ 10007) : ∀ {d : Dd}, d.wf na nb prm = true → szPs_ok d → Short (ddW d)
  | .set k x, h, _ => by
    have h : (decide (k < na) && x.wf na nb) = true := h
    rw [Bool.and_eq_true, decide_eq_true_eq] at h
    exact .cons (by decide +kernel) (.cons (nW_short (by omega) (by omega)) (ptW_short ha hb h.2))
  | .put k x, h, _ => by
    have h : (decide (k < nb) && x.wf na nb) = true := h
    rw [Bool.and_eq_true, decide_eq_true_eq] at h
    exact .cons (by decide +kernel) (.cons (nW_short (by omega) (by omega)) (ptW_short ha hb h.2))
  | .say x, h, _ => .cons (by decide +kernel) (ptW_short ha hb h)
  | .iff x b c, h, hs => by
    have h : (x.wf na nb && (wfDs na nb prm b && wfDs na nb prm c)) = true := h
    rw [Bool.and_eq_true, Bool.and_eq_true] at h
    exact .cons (by decide +kernel) ((ptW_short ha hb h.1).app (((ddsW_short ha hb hp h.2.1 hs.1).app end_short).app ((ddsW_short ha hb hp h.2.2 hs.2).app end_short)))
  | .again x b, h, hs => by
    have h : (x.wf na nb && wfDs na nb prm b) = true := h
    rw [Bool.and_eq_true] at h
    exact .cons (by decide +kernel) ((ptW_short ha hb h.1).app ((ddsW_short ha hb hp h.2 hs).app end_short))
  | .call f xs k, h, hs => by
    have h : (decide (prm[f]? = some xs.length) && (decide (k < na) && wfPs na nb xs)) = true := h
    rw [Bool.and_eq_true, Bool.and_eq_true, decide_eq_true_eq, decide_eq_true_eq] at h
    have hf : f < prm.length := (List.getElem?_eq_some_iff.mp h.1).1
    have hs : xs.length ≤ 1000 := hs
    exact .cons (by decide +kernel) (.cons (nW_short (by omega) (by omega)) (.cons (nW_short (by omega) (by omega)) ((ptsW_short ha hb h.2.2).app (.cons (nW_short (by omega) (by omega)) .nil))))
  | .ret x, h, _ => .cons (by decide +kernel) (ptW_short ha hb h)
theorem ddsW_short {na nb : Nat} {prm : List Nat} (ha : na ≤ 10007) (hb : nb ≤ 10007) (hp : prm.length ≤ 10007) : ∀ {d : List Dd}, wfDs na nb prm d = true → szPs_oks d → Short (ddsW d)
  | [], _, _ => .nil
  | d :: r, h, hs => by
    have h : (d.wf na nb prm && wfDs na nb prm r) = true := h
    rw [Bool.and_eq_true] at h
    exact (ddW_short ha hb hp h.1 hs.1).app (ddsW_short ha hb hp h.2 hs.2)
end
theorem sz_mem0 {fs : List Fn} {f : Fn} (h : f ∈ fs) : szDs f.body ≤ (fs.map fun f => szDs f.body).sum := by
  induction fs with
  | nil => cases h
  | cons x r ih =>
    show _ ≤ szDs x.body + _
    rcases List.mem_cons.mp h with rfl | h
    · exact Nat.le_add_right _ _
    · exact Nat.le_trans (ih h) (Nat.le_add_left _ _)
theorem funW_short {p : Prog} (W : p.Wf) {f : Fn} (hf : f ∈ p.funs) : Short (funW f) := by
  have h1 := W.names f hf
  have h2 := W.bodies f hf
  have h3 := sz_mem0 hf
  have h4 := W.size
  have h5 := W.cells8
  have h6 := W.funs4
  have hp : p.params.length ≤ 10007 := by show (p.funs.map _).length ≤ 10007; rw [List.length_map]; omega
  exact Short.app (.cons (by decide +kernel) (.cons (nW_short (by omega) (by omega)) (.cons (nW_short (by omega) (by omega)) .nil))) ((ddsW_short (by omega) (by omega) hp h2 (szPs_ofs (by omega))).app end_short)
theorem funsW_short {p : Prog} (W : p.Wf) : ∀ {l : List Fn}, (∀ f ∈ l, f ∈ p.funs) → Short (funsW l)
  | [], _ => .nil
  | f :: r, h => (funW_short W (h f (List.mem_cons_self ..))).app (funsW_short W fun g hg => h g (List.mem_cons_of_mem _ hg))
theorem handsR_lt {p : Prog} (W : p.Wf) {h : Nat} (hm : h ∈ p.hands) : h < 4 := by
  have h1 := (List.getElem?_eq_some_iff.mp (W.handsR h hm)).1
  have h2 : p.params.length = p.funs.length := List.length_map ..
  have h3 := W.funs4
  omega
theorem progW_short {p : Prog} (W : p.Wf) : Short (progW p) := by
  have h1 := W.cells8
  have h2 := W.hands3
  refine Short.app (Short.app (Short.app (.cons (by decide +kernel) (.cons (nW_short (by omega) (by omega)) .nil)) fun x hx => ?_) (funsW_short W fun f hf => hf)) (Short.app (.cons (by decide +kernel) (.cons (nW_short (by omega) (by omega)) .nil)) fun x hx => ?_)
  · obtain ⟨c, hc, rfl⟩ := List.mem_map.mp hx
    obtain ⟨g1, g2⟩ := W.cellsR c hc
    exact nW_short g1 g2
  · obtain ⟨c, hc, rfl⟩ := List.mem_map.mp hx
    have := handsR_lt W hc
    exact nW_short (by omega) (by omega)
theorem progW_len {p : Prog} (W : p.Wf) : (progW p).length ≤ 1000 := by
  have h1 := W.cells8
  have h2 := W.hands3
  have h3 := funsW_len p.funs
  have h4 := W.size
  have h5 := W.funs4
  unfold progW cellsW handsW
  simp only [List.length_append, List.length_map, List.length_cons, List.length_nil]
  omega
theorem short_sum : ∀ {l : List Str}, Short l → (l.map (·.length)).sum ≤ 8 * l.length
  | [], _ => Nat.zero_le _
  | x :: r, h => by
    have h1 := h x (List.mem_cons_self ..)
    have h2 := short_sum (l := r) fun y hy => h y (List.mem_cons_of_mem _ hy)
    show x.length + (r.map (·.length)).sum ≤ 8 * (r.length + 1)
    omega
theorem join_small {p : Prog} (W : p.Wf) : ((progW p).map (·.length)).sum + (progW p).length * (" " : Str).length ≤ 16777216 := by
  have h1 := short_sum (progW_short W)
  have h2 := progW_len W
  have h3 : (" " : Str).length = 1 := by decide +kernel
  rw [h3]; omega
end SD
set_option Elab.async false
set_option linter.all false
set_option maxRecDepth 100000
set_option maxHeartbeats 4000000
namespace SD
--@L law_k13_texts
open PySem PySem.Spec PyProof.Rows L2
local macro_rules | `(tactic| walk_at "s1") => `(tactic| first
  | with_reducible refine w_nT ?_
  | with_reducible refine w_nF ?_
  | with_reducible refine w_frzS ?_
  | with_reducible refine w_seq ?_
  | with_reducible refine w_next ?_
  | with_reducible refine w_asg ?_
  | with_reducible refine w_drop ?_
  | with_reducible refine w_ret ?_
  | with_reducible refine w_retN ?_
  | with_reducible refine w_ifs ?_
  | with_reducible refine w_par ?_
  | with_reducible refine w_c ?_
  | with_reducible refine w_nil ?_
  | with_reducible refine w_cons ?_
  | with_reducible refine w_op ?_
  | with_reducible refine w_un ?_
  | with_reducible refine w_rI0 ?_
  | with_reducible refine w_rU ?_
  | with_reducible refine w_test ?_
  | with_reducible refine w_b ?_
  | with_reducible refine w_bl ?_
  | with_reducible refine w_and ?_
  | with_reducible refine w_or ?_
  | with_reducible refine w_not ?_
  | with_reducible refine w_andV ?_
  | with_reducible refine w_orV ?_
  | with_reducible refine w_notV ?_
  | with_reducible refine w_if ?_
  | with_reducible refine w_chain ?_
  | with_reducible refine w_eqI ?_
  | with_reducible refine w_neI ?_
  | with_reducible refine w_eqS ?_
  | with_reducible refine w_neS ?_
  | with_reducible refine w_pcons ?_
  | with_reducible refine w_pnil ?_
  | with_reducible refine w_dget ?_
  | with_reducible refine w_dget2 ?_
  | with_reducible refine w_dput ?_
  | with_reducible refine w_neB ?_
  | with_reducible refine w_eqB ?_
  | with_reducible refine w_isNb ?_
  | with_reducible refine w_isNs ?_
  | with_reducible refine w_min ?_
  | with_reducible refine w_max ?_
  | with_reducible refine w_isNn ?_
  | with_reducible refine w_isNi ?_
  | with_reducible refine w_isNr ?_
  | with_reducible refine w_notNn ?_
  | with_reducible refine w_notNi ?_
  | with_reducible refine w_notNr ?_
  | with_reducible refine w_call ?_
  | with_reducible refine w_cb ?_
  | with_reducible refine w_meth ?_
  | with_reducible refine w_make ?_
  | with_reducible refine w_tup ?_
  | with_reducible refine w_lst ?_
  | with_reducible refine w_int1b ?_
  | with_reducible refine w_int1 ?_
  | with_reducible refine w_gNil ?_
  | with_reducible refine w_gCons ?_
  | with_reducible refine w_gSub ?_
  | with_reducible refine w_bm ?_
  | with_reducible refine w_sl ?_
  | with_reducible refine w_part ?_
  | with_reducible refine w_partI ?_
  | with_reducible refine w_noPart ?_
  | with_reducible refine w_for ?_
  | with_reducible refine w_lc ?_
  | with_reducible refine w_rng1 ?_
  | with_reducible refine w_iList ?_
  | with_reducible refine w_iTup ?_
  | with_reducible refine w_break ?_
  | with_reducible refine w_cont ?_
  | ((with_reducible refine' w_var ?h ?_); (case h => exact rfl))
  | ((with_reducible refine' w_gName ?h ?_); (case h => (simp only [wipe, List.set]; rfl)))
  | ((with_reducible refine' w_par2 ?h ?_); (case h => (simp only [wipe, List.set]; rfl)))
  | ((with_reducible refine' w_mod ?h ?_); (case h => omega))
  | ((with_reducible refine' w_mul ?h ?_); (case h => omega))
  | ((with_reducible refine' w_rng1I ?h ?_); (case h => omega))
  | with_reducible refine iteT ?_
  | with_reducible refine iteF ?_
  | ((with_reducible refine' iteDT ?h ?_); (case h => omega))
  | ((with_reducible refine' iteDF ?h ?_); (case h => omega))
  | ((with_reducible refine' iteNT ?h ?_); (case h => omega))
  | ((with_reducible refine' iteNF ?h ?_); (case h => omega))
  | ((with_reducible refine' iteDT ?h ?_); (case h => decide +kernel))
  | ((with_reducible refine' iteDF ?h ?_); (case h => decide +kernel))
  | ((with_reducible refine' iteNT ?h ?_); (case h => decide +kernel))
  | ((with_reducible refine' iteNF ?h ?_); (case h => decide +kernel))
  | fail "stop")
local macro_rules | `(tactic| walk_at "st") => `(tactic| (walk_at "s1"; repeat' walk_at "s1"))
theorem w_tyS {K : PySem.W.Frag} {r : V → List V → Hp → VK → Prop} {t : TA} {z : Str} {σ : L2.St} {H : Hp} {Q : VK} (h : t σ H fun xs H2 => r (.str z) xs H2 Q) : KBm K "str" r t σ Q (.str z) H := ⟨rfl, h⟩
theorem use_need {K : PySem.W.Frag} {w : World} {H : Hp} {L : List As} {Q : VK} {E : XK} {p : Prog} {vp : V} (h : Sep H L) (fp : ProgAt K H p vp) (W : p.Wf) (q : ∀ H', Imm H H' → Sep H' L → Q .non H') : sp_need_program K w [vp] H Q E := by
  obtain ⟨c, h1, h2⟩ := h
  exact ⟨p, vp, c, rfl, fp, W, h1, fun H' im h' => q H' im ⟨c, h', h2.mono im⟩⟩
def sp_written (K : PySem.W.Frag) (w : World) : Sp := fun vs H Q _ => ∃ (vp : V) (p : Prog) (L : List As), vs = [vp] ∧ ProgAt K H p vp ∧ p.Wf ∧ Sep H L ∧ ∀ H', Imm H H' → Sep H' L → Q (.str (textOf p)) H'
abbrev n_f_written : List Str := ["program", "found", "number", "params", "names", "body", "fun"]
def t_f_written (K : PySem.W.Frag) (w : World)  : TS :=
 (tSeq (tDrop (tCall (sp_need_program K w) [] E0 (tCons (tVar 0) tNil)))
 (tSeq (tAsg (tOp rCat (tLst (tCons (tC (.str "cells")) (tCons (tCB rStrInt (tCons (tCB (rLenS' K) (tCons (tOp (rIxT K) (tVar 0) (tC (.int 0))) tNil)) tNil)) tNil))) (tLc (iTup K (tOp (rIxT K) (tVar 0) (tC (.int 0)))) (gName 2) tYes (tCB rStrInt (tCons (tVar 2) tNil)) [2])) (gName 1))
 (tSeq (tFor (iTup K (tOp (rIxT K) (tVar 0) (tC (.int 1)))) (gTup K 3 (gCons (gName 3) (gCons (gName 4) (gCons (gName 5) gNil)))) (tDrop (tBM K "list" rExtend (tVar 1) (tCons (tOp rCat (tLst (tCons (tC (.str "fun")) (tCons (tCB rStrInt (tCons (tVar 3) tNil)) (tCons (tCB rStrInt (tCons (tVar 4) tNil)) tNil)))) (tCall (sp_body_words 9 K w) [] E0 (tCons (tVar 5) tNil))) tNil))))
 (tRet (tBM K "str" (rJoinS K) (tC (.str " ")) (tCons (tOp rCat (tOp rCat (tVar 1) (tLst (tCons (tC (.str "hands")) (tCons (tCB rStrInt (tCons (tCB (rLenS' K) (tCons (tOp (rIxT K) (tVar 0) (tC (.int 2))) tNil)) tNil)) tNil)))) (tLc (iTup K (tOp (rIxT K) (tVar 0) (tC (.int 2)))) (gName 6) tYes (tCB rStrInt (tCons (tVar 6) tNil)) [6])) tNil))))))
theorem st_f_written {x0 : V} : start n_f_written [x0] = [some x0, none, none, none, none, none, none] := rfl
theorem pu_f_written {K : PySem.W.Frag} {w : World} (vs : List V) (H : Hp) (Q : VK) (E : XK) (h : sp_written K w vs H Q E) : t_f_written K w { nx := fun _ H' => Q .non H', rt := Q } (start n_f_written vs) H := by
  obtain ⟨vp, p, L, rfl, fp, W, h0, q⟩ := h
  obtain ⟨pa, pc, pf, ph, fs, rfl, g1, g2, g3, g4, g5⟩ := id fp
  have w1 := W.cells8
  have w2 := W.hands3
  have w4 := W.funs4
  have w5 := W.size
  have w6 := funsW_len p.funs
  rw [st_f_written]
  unfold t_f_written
  walk_at "st"
  refine use_need h0 fp W fun H1 i1 h1 => ?_
  walk_at "st"
  refine w_ixT (i1.t g1) (atI_nat (j := 0) (v := .ref pc) rfl) ?_
  walk_at "st"
  refine w_lenT (i1.t g2) ?_
  walk_at "st"
  rw [List.length_map]
  refine w_strI (by omega) (by omega) ?_
  walk_at "st"
  refine k_lst h1 fun l1 H2 i2 h2 => ?_
  have i02 := i1.trans i2
  walk_at "st"
  refine w_ixT (i02.t g1) (atI_nat (j := 0) (v := .ref pc) rfl) ?_
  refine w_itt (i02.t g2) ?_
  refine k_lcT (xs := p.cells.map V.int) h2 (fun D i H => ∃ ws : List Str, Imm H2 H ∧ Sep H (cellA D (.lst (ws.map V.str)) :: cellA l1 (.lst [V.str "cells", V.str (nW (p.cells.length : Nat))]) :: L) ∧ ws = (p.cells.take i).map nW)
    (fun D H i h => ⟨[], i, h, rfl⟩) (fun D i H _ hP => by obtain ⟨_, i, _⟩ := hP; exact (i02.trans i).t g2) (fun D i x H3 hi hx hP => ?_) fun D H3 hP => ?_
  · obtain ⟨ws, i3, h3, hws⟩ := hP
    rw [List.length_map] at hi
    rw [List.getElem?_map] at hx
    have ec : p.cells[i]? = some p.cells[i] := List.getElem?_eq_getElem hi
    have hr := W.cellsR _ (List.getElem_mem hi)
    rw [ec] at hx
    obtain rfl := Option.some.inj hx
    generalize p.cells[i] = cc at ec hr
    refine k_lcB ?_
    walk_at "st"
    refine w_yes rfl ?_
    walk_at "st"
    refine w_strI hr.1 hr.2 ?_
    refine k_acc h3.cell (by rw [hws]; simp only [List.length_map, List.length_take]; omega) ⟨ws ++ [nW cc], i3.trans (h3.imm rfl), ?_, ?_⟩
    · rw [List.map_append]; exact h3.set rfl
    · rw [hws, take_snoc ec, List.map_append]; rfl
  obtain ⟨ws, i3, h3, hws⟩ := hP
  rw [List.length_map, List.take_length] at hws
  subst hws
  refine w_cat h3 (h3.pull 1 rfl).cell h3.cell (small (by simp only [List.length_map, List.length_cons, List.length_nil]; omega)) fun l2 H4 i4 h4 => ?_
  have h4 : Sep H4 (cellA l2 (.lst ((cellsW p ++ funsW (p.funs.take 0)).map V.str)) :: L) := by
    have e : (cellsW p ++ funsW (p.funs.take 0)).map V.str = [V.str "cells", .str (nW (p.cells.length : Nat))] ++ (p.cells.map nW).map V.str := by
      show (cellsW p ++ []).map V.str = _
      rw [List.append_nil]; unfold cellsW; rw [List.map_append]; rfl
    rw [e]
    have h5 : Sep H4 (cellA l2 (.lst ([V.str "cells", .str (nW (p.cells.length : Nat))] ++ (p.cells.map nW).map V.str)) :: cellA D (.lst ((p.cells.map nW).map V.str)) :: cellA l1 (.lst [V.str "cells", V.str (nW (p.cells.length : Nat))]) :: L) := h4
    exact (h5.sel 3 [1, 2, 0]).tail.tail
  have i04 := i02.trans (i3.trans i4)
  walk_at "st"
  refine w_ixT (i04.t g1) (atI_nat (j := 1) (v := .ref pf) rfl) ?_
  refine w_itt (i04.t g3) ?_
  refine k_forT (xs := fs) (fun i σ H => ∃ x2 x3 x4 x5 x6, σ = [some (.ref pa), some (.ref l2), x2, x3, x4, x5, x6] ∧ Imm H4 H ∧ Sep H (cellA l2 (.lst ((cellsW p ++ funsW (p.funs.take i)).map V.str)) :: L))
    ⟨_, _, _, _, _, rfl, .refl _, h4⟩ (fun i σ H _ hP => by obtain ⟨_, _, _, _, _, _, im, _⟩ := hP; exact (i04.trans im).t g3) (fun i u σ H5 hi hu hP => ?_) fun σ H5 hP => ?_
  · obtain ⟨x2, x3, x4, x5, x6, rfl, i5, h5⟩ := hP
    obtain ⟨f, ef, fa, vb, rfl, k1, va, vs, rfl, k3, k4⟩ := (g4.mono (i04.trans i5)).get hu
    have hf := List.mem_of_getElem? ef
    have n1 := W.names f hf
    have n2 := W.bodies f hf
    have n3 := W.deep f hf
    have n4 := sz_mem0 hf
    have hp : p.params.length ≤ 10007 := by show (p.funs.map _).length ≤ 10007; rw [List.length_map]; omega
    refine w_gTup k1 rfl ?_
    walk_at "st"
    refine w_tyL (SqL.of h5.cell) ?_
    walk_at "st"
    refine w_strI (by omega) (by omega) ?_
    walk_at "st"
    refine w_strI (by omega) (by omega) ?_
    walk_at "st"
    refine k_lst h5 fun l3 H6 i6 h6 => ?_
    walk_at "st"
    have b1 := ddsW_len f.body
    have b2 := funsW_len (p.funs.take i)
    have b3 : ((p.funs.take i).map fun f => szDs f.body).sum ≤ (p.funs.map fun f => szDs f.body).sum := by
      have e : (p.funs.map fun f => szDs f.body) = ((p.funs.take i).map fun f => szDs f.body) ++ ((p.funs.drop i).map fun f => szDs f.body) := by rw [← List.map_append, List.take_append_drop]
      rw [e, List.sum_append]; exact Nat.le_add_right _ _
    have b4 : (p.funs.take i).length ≤ 4 := by rw [List.length_take]; omega
    refine ⟨va, vs, f.body, f.names, p.cells.length, p.params, _, rfl, by omega, n3, i6.t k3, k4.mono i6, n2, by omega, by omega, hp, by omega, h6, fun H7 l7 i7 h7 => ?_⟩
    refine w_cat h7 (h7.pull 1 rfl).cell h7.cell (small (by simp only [List.length_map, List.length_append, List.length_cons, List.length_nil]; omega)) fun l8 H8 i8 h8 => ?_
    have h8 : Sep H8 (cellA l8 (.lst ([V.str "fun", .str (nW (f.params : Nat)), .str (nW (f.names : Nat))] ++ (ddsW f.body ++ endW).map V.str)) :: cellA l7 (.lst ((ddsW f.body ++ endW).map V.str)) :: cellA l3 (.lst [V.str "fun", .str (nW (f.params : Nat)), .str (nW (f.names : Nat))]) :: cellA l2 (.lst ((cellsW p ++ funsW (p.funs.take i)).map V.str)) :: L) := h8
    walk_at "st"
    have c1 : (cellsW p).length ≤ 10 := by unfold cellsW; simp only [List.length_append, List.length_map, List.length_cons, List.length_nil]; omega
    refine w_extend (h8.pull 3 rfl).cell h8.cell (by simp only [List.length_map, List.length_append, List.length_cons, List.length_nil]; omega) ?_
    have h9 := h8.pull 3 rfl
    have ef2 : ((cellsW p ++ funsW (p.funs.take i)).map V.str ++ ([V.str "fun", .str (nW (f.params : Nat)), .str (nW (f.names : Nat))] ++ (ddsW f.body ++ endW).map V.str)) = (cellsW p ++ funsW (p.funs.take (i + 1))).map V.str := by
      rw [take_snoc ef, funsW_snoc]
      unfold funW
      simp only [List.map_append, List.append_assoc, List.map_cons, List.map_nil, List.cons_append, List.nil_append]
    rw [ef2]
    have h10 : Sep _ (cellA l2 (.lst ((cellsW p ++ funsW (p.funs.take (i + 1))).map V.str)) :: cellA l8 _ :: cellA l7 _ :: cellA l3 _ :: L) := h9.set rfl
    exact ⟨_, _, _, _, _, rfl, i5.trans (i6.trans (i7.trans (i8.trans (h9.imm rfl)))), (h10.sel 4 [1, 2, 3, 0]).tail.tail.tail⟩
  · obtain ⟨x2, x3, x4, x5, x6, rfl, i5, h5⟩ := hP
    walk_at "st"
    refine w_tyS ?_
    walk_at "st"
    refine w_ixT ((i04.trans i5).t g1) (atI_nat (j := 2) (v := .ref ph) rfl) ?_
    walk_at "st"
    refine w_lenT ((i04.trans i5).t g5) ?_
    walk_at "st"
    rw [List.length_map]
    refine w_strI (by omega) (by omega) ?_
    walk_at "st"
    have hfl : p.funs.take fs.length = p.funs := by rw [g4.len, List.take_length]
    rw [hfl] at h5
    have c1 : (cellsW p).length ≤ 10 := by unfold cellsW; simp only [List.length_append, List.length_map, List.length_cons, List.length_nil]; omega
    refine k_lst h5 fun l3 H6 i6 h6 => ?_
    refine w_cat h6 (h6.pull 1 rfl).cell h6.cell (small (by simp only [List.length_map, List.length_append, List.length_cons, List.length_nil]; omega)) fun l4 H7 i7 h7 => ?_
    walk_at "st"
    have h7 : Sep H7 (cellA l4 (.lst ((cellsW p ++ funsW p.funs).map V.str ++ [V.str "hands", V.str (nW (p.hands.length : Nat))])) :: L) := by
      have e : Sep H7 (cellA l3 (.lst [V.str "hands", V.str (nW (p.hands.length : Nat))]) :: cellA l2 (.lst ((cellsW p ++ funsW p.funs).map V.str)) :: cellA l4 (.lst ((cellsW p ++ funsW p.funs).map V.str ++ [V.str "hands", V.str (nW (p.hands.length : Nat))])) :: L) := h7.sel 3 [1, 2, 0]
      exact e.tail.tail
    have i07 := i04.trans (i5.trans (i6.trans i7))
    refine w_ixT (i07.t g1) (atI_nat (j := 2) (v := .ref ph) rfl) ?_
    refine w_itt (i07.t g5) ?_
    refine k_lcT (xs := p.hands.map fun n => V.int (n : Nat)) h7 (fun D i H => ∃ ws : List Str, Imm H7 H ∧ Sep H (cellA D (.lst (ws.map V.str)) :: cellA l4 (.lst ((cellsW p ++ funsW p.funs).map V.str ++ [V.str "hands", V.str (nW (p.hands.length : Nat))])) :: L) ∧ ws = (p.hands.take i).map fun n => nW (n : Nat))
      (fun D H i h => ⟨[], i, h, rfl⟩) (fun D i H _ hP => by obtain ⟨_, i, _⟩ := hP; exact (i07.trans i).t g5) (fun D i x H8 hi hx hP => ?_) fun D H8 hP => ?_
    · obtain ⟨ws, i8, h8, hws⟩ := hP
      rw [List.length_map] at hi
      rw [List.getElem?_map] at hx
      have ec : p.hands[i]? = some p.hands[i] := List.getElem?_eq_getElem hi
      have hr := handsR_lt W (List.getElem_mem hi)
      rw [ec] at hx
      obtain rfl := Option.some.inj hx
      generalize p.hands[i] = cc at ec hr
      refine k_lcB ?_
      walk_at "st"
      refine w_yes rfl ?_
      walk_at "st"
      refine w_strI (by omega) (by omega) ?_
      refine k_acc h8.cell (by rw [hws]; simp only [List.length_map, List.length_take]; omega) ⟨ws ++ [nW (cc : Nat)], i8.trans (h8.imm rfl), ?_, ?_⟩
      · rw [List.map_append]; exact h8.set rfl
      · rw [hws, take_snoc ec, List.map_append]; rfl
    obtain ⟨ws, i8, h8, hws⟩ := hP
    rw [List.length_map, List.take_length] at hws
    subst hws
    refine w_cat h8 (h8.pull 1 rfl).cell h8.cell (small (by simp only [List.length_map, List.length_append, List.length_cons, List.length_nil]; omega)) fun l5 H9 i9 h9 => ?_
    have e : ((cellsW p ++ funsW p.funs).map V.str ++ [V.str "hands", .str (nW (p.hands.length : Nat))]) ++ (p.hands.map fun n => nW (n : Nat)).map V.str = (progW p).map V.str := by
      unfold progW handsW
      simp only [List.map_append, List.append_assoc, List.map_cons, List.map_nil, List.cons_append, List.nil_append]
    rw [e] at h9
    have h9 : Sep H9 (cellA l5 (.lst ((progW p).map V.str)) :: cellA D _ :: cellA l4 _ :: L) := h9
    walk_at "st"
    refine ⟨" ", l5, progW p, rfl, rfl, .inl (SqL.of h9.cell), join_small W, ?_⟩
    exact q H9 (i07.trans (i8.trans i9)) h9.tail.tail.tail
end SD
set_option Elab.async false
set_option linter.all false
set_option maxRecDepth 100000
set_option maxHeartbeats 4000000
namespace SD
--@L law_k13_texts
open PySem PySem.Spec PyProof.Rows L2
local macro_rules | `(tactic| walk_at "s1") => `(tactic| first
  | with_reducible refine w_nT ?_
  | with_reducible refine w_nF ?_
  | with_reducible refine w_frzS ?_
  | with_reducible refine w_seq ?_
  | with_reducible refine w_next ?_
  | with_reducible refine w_asg ?_
  | with_reducible refine w_drop ?_
  | with_reducible refine w_ret ?_
  | with_reducible refine w_retN ?_
  | with_reducible refine w_ifs ?_
  | with_reducible refine w_par ?_
  | with_reducible refine w_c ?_
  | with_reducible refine w_nil ?_
  | with_reducible refine w_cons ?_
  | with_reducible refine w_op ?_
  | with_reducible refine w_un ?_
  | with_reducible refine w_rI0 ?_
  | with_reducible refine w_rU ?_
  | with_reducible refine w_test ?_
  | with_reducible refine w_b ?_
  | with_reducible refine w_bl ?_
  | with_reducible refine w_and ?_
  | with_reducible refine w_or ?_
  | with_reducible refine w_not ?_
  | with_reducible refine w_andV ?_
  | with_reducible refine w_orV ?_
  | with_reducible refine w_notV ?_
  | with_reducible refine w_if ?_
  | with_reducible refine w_chain ?_
  | with_reducible refine w_eqI ?_
  | with_reducible refine w_neI ?_
  | with_reducible refine w_eqS ?_
  | with_reducible refine w_neS ?_
  | with_reducible refine w_pcons ?_
  | with_reducible refine w_pnil ?_
  | with_reducible refine w_dget ?_
  | with_reducible refine w_dget2 ?_
  | with_reducible refine w_dput ?_
  | with_reducible refine w_neB ?_
  | with_reducible refine w_eqB ?_
  | with_reducible refine w_isNb ?_
  | with_reducible refine w_isNs ?_
  | with_reducible refine w_min ?_
  | with_reducible refine w_max ?_
  | with_reducible refine w_isNn ?_
  | with_reducible refine w_isNi ?_
  | with_reducible refine w_isNr ?_
  | with_reducible refine w_notNn ?_
  | with_reducible refine w_notNi ?_
  | with_reducible refine w_notNr ?_
  | with_reducible refine w_call ?_
  | with_reducible refine w_cb ?_
  | with_reducible refine w_meth ?_
  | with_reducible refine w_make ?_
  | with_reducible refine w_tup ?_
  | with_reducible refine w_lst ?_
  | with_reducible refine w_int1b ?_
  | with_reducible refine w_int1 ?_
  | with_reducible refine w_gNil ?_
  | with_reducible refine w_gCons ?_
  | with_reducible refine w_gSub ?_
  | with_reducible refine w_bm ?_
  | with_reducible refine w_sl ?_
  | with_reducible refine w_part ?_
  | with_reducible refine w_partI ?_
  | with_reducible refine w_noPart ?_
  | with_reducible refine w_for ?_
  | with_reducible refine w_lc ?_
  | with_reducible refine w_rng1 ?_
  | with_reducible refine w_iList ?_
  | with_reducible refine w_iTup ?_
  | with_reducible refine w_break ?_
  | with_reducible refine w_cont ?_
  | ((with_reducible refine' w_var ?h ?_); (case h => exact rfl))
  | ((with_reducible refine' w_gName ?h ?_); (case h => (simp only [wipe, List.set]; rfl)))
  | ((with_reducible refine' w_par2 ?h ?_); (case h => (simp only [wipe, List.set]; rfl)))
  | ((with_reducible refine' w_mod ?h ?_); (case h => omega))
  | ((with_reducible refine' w_mul ?h ?_); (case h => omega))
  | ((with_reducible refine' w_rng1I ?h ?_); (case h => omega))
  | with_reducible refine iteT ?_
  | with_reducible refine iteF ?_
  | ((with_reducible refine' iteDT ?h ?_); (case h => omega))
  | ((with_reducible refine' iteDF ?h ?_); (case h => omega))
  | ((with_reducible refine' iteNT ?h ?_); (case h => omega))
  | ((with_reducible refine' iteNF ?h ?_); (case h => omega))
  | ((with_reducible refine' iteDT ?h ?_); (case h => decide +kernel))
  | ((with_reducible refine' iteDF ?h ?_); (case h => decide +kernel))
  | ((with_reducible refine' iteNT ?h ?_); (case h => decide +kernel))
  | ((with_reducible refine' iteNF ?h ?_); (case h => decide +kernel))
  | fail "stop")
local macro_rules | `(tactic| walk_at "st") => `(tactic| (walk_at "s1"; repeat' walk_at "s1"))
/-! ### _law_words: a deed's, a part's -/
inductive Th where | pt (p : Pt) | dd (d : Dd)
def Th.dp : Th → Nat | .pt p => p.dp | .dd d => d.dp
def Th.ws : Th → List Str | .pt p => ptW p | .dd d => ddW d
def Th.ok (na nb : Nat) (prm : List Nat) : Th → Prop
  | .pt p => p.wf na nb = true ∧ p.sz ≤ 100
  | .dd d => d.wf na nb prm = true ∧ d.sz ≤ 100
def TngAt (K : PySem.W.Frag) (H : Hp) : Th → V → Prop
  | .pt p, v => PtAt K H p v
  | .dd d, v => DdAt K H d v
def Th.word : Th → Str | .pt p => ptKey p | .dd d => d.word
def Th.pcs : Th → List Pc
  | .pt (.two _ a b) => [.pt a, .pt b]
  | .pt _ => []
  | .dd d => d.pcs
def Pc.fits (call : Bool) : Pc → Prop
  | .bs _ => call = false
  | .ps _ => call = true
  | _ => True
def leaf : Th → Bool
  | .pt (.two _ _ _) => false
  | .pt _ => true
  | .dd _ => false
theorem Th.dp1 (t : Th) : 1 ≤ t.dp := by
  cases t with
  | pt p => cases p <;> simp [Th.dp, Pt.dp] <;> omega
  | dd d => cases d <;> simp [Th.dp, Dd.dp] <;> omega
theorem Th.words {t : Th} (h : leaf t = false) : t.ws = t.word :: pcsW t.pcs := by
  cases t with
  | pt p =>
    cases p with
    | two o a b => show o.str :: (ptW a ++ ptW b) = o.str :: (ptW a ++ (ptW b ++ [])); rw [List.append_nil]
    | _ => cases h
  | dd d => exact d.words
theorem Th.fits (t : Th) : ∀ q ∈ t.pcs, q.fits (decide (t.word = "call")) := by
  cases t with
  | pt p =>
    cases p with
    | two o a b => intro q hq; simp [Th.pcs] at hq; rcases hq with rfl | rfl <;> trivial
    | _ => intro q hq; simp [Th.pcs] at hq
  | dd d =>
    cases d <;> intro q hq <;> simp [Th.pcs, Dd.pcs] at hq
    all_goals first
      | (subst hq; first | trivial | (show decide _ = _; decide +kernel))
      | (rcases hq with rfl | rfl <;> first | trivial | (show decide _ = _; decide +kernel))
      | (rcases hq with rfl | rfl | rfl <;> first | trivial | (show decide _ = _; decide +kernel))
theorem Th.okp {na nb : Nat} {prm : List Nat} (ha : na ≤ 10007) (hb : nb ≤ 10007) (hp : prm.length ≤ 10007) {t : Th} (hw : t.ok na nb prm) : ∀ q ∈ t.pcs, q.ok na nb prm t.dp 100 := by
  cases t with
  | pt p =>
    cases p with
    | two o a b =>
      obtain ⟨h1, h2⟩ := hw
      have h1 : (a.wf na nb && b.wf na nb) = true := h1
      rw [Bool.and_eq_true] at h1
      have h2 : 1 + a.sz + b.sz ≤ 100 := h2
      have e1 : (Th.pt (.two o a b)).dp = 1 + max a.dp b.dp := rfl
      intro q hq; simp [Th.pcs] at hq
      rcases hq with rfl | rfl
      · exact ⟨h1.1, by rw [e1]; omega, by omega⟩
      · exact ⟨h1.2, by rw [e1]; omega, by omega⟩
    | _ => intro q hq; simp [Th.pcs] at hq
  | dd d =>
    intro q hq
    have h := pcs_ok ha hb hp hw.1 q hq
    cases q with
    | nu c k => exact h
    | pt p => exact ⟨h.1, h.2.1, Nat.le_trans h.2.2 hw.2⟩
    | bs l => exact ⟨h.1, h.2.1, Nat.le_trans h.2.2 hw.2⟩
    | ps l => exact ⟨h.1, h.2.1, Nat.le_trans h.2.2 hw.2⟩
theorem tngAt_pcs {K : PySem.W.Frag} {H : Hp} {t : Th} {v : V} (hl : leaf t = false) (h : TngAt K H t v) : ∃ a its, v = .ref a ∧ SqT K H a (.str t.word :: its) ∧ PcsAt K H t.pcs its := by
  cases t with
  | pt p =>
    cases p with
    | two o x y => obtain ⟨a, vx, vy, rfl, ht, hx, hy⟩ := h; exact ⟨a, _, rfl, ht, _, _, rfl, hx, _, _, rfl, hy, rfl⟩
    | _ => cases hl
  | dd d => exact ddAt_pcs h
theorem Th.word_in {t : Th} (h : leaf t = false) : inV (.str t.word) [.str "num", .str "name", .str "cell"] = false := by
  cases t with
  | pt p =>
    cases p with
    | two o x y =>
      show inV (.str o.str) _ = false
      cases o <;> decide +kernel
    | _ => cases h
  | dd d =>
    have e : ∀ z : Str, z ∈ ([("set" : Str), "put", "say", "if", "again", "call", "return"] : List Str) → inV (.str z) [.str "num", .str "name", .str "cell"] = false := by decide +kernel
    refine e _ ?_
    cases d <;> simp [Th.word, Dd.word]
theorem Th.ws_len {na nb : Nat} {prm : List Nat} {t : Th} (h : t.ok na nb prm) : t.ws.length ≤ 400 := by
  cases t with
  | pt p => have := ptW_len p; have := h.2; show (ptW p).length ≤ 400; omega
  | dd d => have := ddW_len d; have := h.2; show (ddW d).length ≤ 400; omega
def sp_law_words (n : Nat) (K : PySem.W.Frag) (w : World) : Sp := fun vs H Q _ => ∃ (v : V) (t : Th) (na nb : Nat) (prm : List Nat) (L : List As), vs = [v] ∧ t.dp ≤ n ∧ t.dp ≤ 8 ∧ TngAt K H t v ∧ t.ok na nb prm ∧ na ≤ 10007 ∧ nb ≤ 10007 ∧ prm.length ≤ 10007 ∧ Sep H L ∧
  ∀ H' l, Imm H H' → Sep H' (cellA l (.lst (t.ws.map V.str)) :: L) → Q (.ref l) H'
theorem w_andC {σ : L2.St} {H : Hp} {QB : Bool → Hp → Prop} {u : TT} {c : Bool} (b : Bool) (hu : c = true → ∀ QB : Bool → Hp → Prop, QB b H → u σ H QB) (h : QB (c && b) H) : if c = true then u σ H QB else QB false H := by
  cases c with
  | true => exact iteT (hu rfl _ h)
  | false => exact iteF h
theorem pdd_get {K : PySem.W.Frag} {H : Hp} {d : Dd} {v : V} (h : DdAt K H d v) : ∃ a its, v = .ref a ∧ SqT K H a (.str d.word :: its) := by
  obtain ⟨a, its, e, h1, _⟩ := ddAt_pcs h; exact ⟨a, its, e, h1⟩
theorem ppt_get {K : PySem.W.Frag} {H : Hp} {p : Pt} {v : V} (h : PtAt K H p v) : ∃ a its, v = .ref a ∧ SqT K H a (.str (ptKey p) :: its) := by
  cases p with
  | num i => obtain ⟨a, e, h⟩ := h; exact ⟨a, _, e, h⟩
  | name i => obtain ⟨a, e, h⟩ := h; exact ⟨a, _, e, h⟩
  | cell i => obtain ⟨a, e, h⟩ := h; exact ⟨a, _, e, h⟩
  | two o x y => obtain ⟨a, _, _, e, h, _⟩ := h; exact ⟨a, _, e, h⟩
abbrev n_f_law_words : List Str := ["_law_thing", "_law_found", "_law_part_here", "_law_one"]
def t_f_law_words (K : PySem.W.Frag) (w : World) (n : Nat) : TS :=
 (tSeq (tIfS (tTest (tOp (rIn K false) (tOp (rIxT K) (tVar 0) (tC (.int 0))) (tTup (tCons (tC (.str "num")) (tCons (tC (.str "name")) (tCons (tC (.str "cell")) tNil)))))) (tRet (tLst (tCons (tOp rAddStr (tDGet (tDisp [((tC (.str "num")), (tC (.str ""))), ((tC (.str "name")), (tC (.str "n"))), ((tC (.str "cell")), (tC (.str "c")))]) (tOp (rIxT K) (tVar 0) (tC (.int 0)))) (tCB rStrInt (tCons (tOp (rIxT K) (tVar 0) (tC (.int 1))) tNil))) tNil))) tNext)
 (tSeq (tAsg (tLst (tCons (tOp (rIxT K) (tVar 0) (tC (.int 0))) tNil)) (gName 1))
 (tSeq (tFor (iTup K (tSl (rSlA K) (tVar 0) (tPart (tC (.int 1))) tNoPart)) (gName 2) (tIfS (tNot (tB (tCB (rIsi' K) (tCons (tVar 2) (tCons (tC (.ty "tuple")) tNil))))) (tDrop (tBM K "list" rAppend (tVar 1) (tCons (tCB rStrInt (tCons (tVar 2) tNil)) tNil))) (tIfS (tAnd (tTest (tOp (rNeNilT K) (tVar 2) (tTup tNil))) (tB (tCB (rIsi' K) (tCons (tOp (rIxT K) (tVar 2) (tC (.int 0))) (tCons (tC (.ty "str")) tNil))))) (tAsg (tOp rCat (tVar 1) (tCall (sp_law_words n K w) [] E0 (tCons (tVar 2) tNil))) (gName 1)) (tSeq (tIfS (tTest (tOp rEq (tOp (rIxT K) (tVar 0) (tC (.int 0))) (tC (.str "call")))) (tDrop (tBM K "list" rAppend (tVar 1) (tCons (tCB rStrInt (tCons (tCB (rLenS' K) (tCons (tVar 2) tNil)) tNil)) tNil))) tNext)
 (tSeq (tFor (iTup K (tVar 2)) (gName 3) (tAsg (tOp rCat (tVar 1) (tCall (sp_law_words n K w) [] E0 (tCons (tVar 3) tNil))) (gName 1)))
 (tIfS (tTest (tOp rNe (tOp (rIxT K) (tVar 0) (tC (.int 0))) (tC (.str "call")))) (tDrop (tBM K "list" rAppend (tVar 1) (tCons (tC (.str "end")) tNil))) tNext))))))
 (tRet (tVar 1)))))
theorem st_f_law_words {x0 : V} : start n_f_law_words [x0] = [some x0, none, none, none] := rfl
theorem lw_leaf {K : PySem.W.Frag} {w : World} {n : Nat} {H : Hp} {Q : VK} {L : List As} {a : Addr} {key pre : Str} {i : Int} {ws : List Str} (ht : SqT K H a [.str key, .int i]) (h0 : Sep H L) (hk : inV (.str key) [.str "num", .str "name", .str "cell"] = true)
    (hv : valV dT (.inr key) = some (.str pre)) (g0 : 0 ≤ i) (g1 : i < 10007) (hp : pre.length ≤ 1) (hw : ws = [pre ++ nW i]) (q : ∀ H' l, Imm H H' → Sep H' (cellA l (.lst (ws.map V.str)) :: L) → Q (.ref l) H') :
    t_f_law_words K w n { nx := fun _ H' => Q .non H', rt := Q } (start n_f_law_words [.ref a]) H := by
  rw [st_f_law_words]
  unfold t_f_law_words
  walk_at "st"
  refine w_ixT ht (v := .str key) rfl ?_
  walk_at "st"
  refine k_tup (K := K) h0 fun p H1 i1 s1 f1 => ?_
  refine w_in (.inr f1) rfl rfl ?_
  rw [hk]
  walk_at "st"
  refine w_disp s1 fun pd H2 i2 s2 => ?_
  walk_at "st"
  refine k_disp dT s2 rfl (by show 3 ≤ 15; decide) (by kernel_rfl) fun H3 i3 s3 => ?_
  have ht2 := (i1.trans (i2.trans i3)).t ht
  walk_at "st"
  refine w_ixT ht2 (v := .str key) rfl ?_
  refine k_dgetS s3.cell hv ?_
  walk_at "st"
  refine w_ixT ht2 (v := .int i) rfl ?_
  walk_at "st"
  refine w_strI g0 g1 ?_
  have := nW_len g0 g1
  refine w_addS (by omega) ?_
  walk_at "st"
  refine k_lst s3.tail fun l H4 i4 s4 => ?_
  refine q H4 l (i1.trans (i2.trans (i3.trans i4))) ?_
  rw [hw]; exact s4
theorem pu_f_law_words {K : PySem.W.Frag} {w : World} (n : Nat) (vs : List V) (H : Hp) (Q : VK) (E : XK) (h : sp_law_words (n + 1) K w vs H Q E) : t_f_law_words K w n { nx := fun _ H' => Q .non H', rt := Q } (start n_f_law_words vs) H := by
  obtain ⟨v, t, na, nb, prm, L, rfl, hd, hd8, fp, hok, hna, hnb, hprm, h0, q⟩ := h
  cases hlf : leaf t with
  | true =>
    cases t with
    | dd d => cases hlf
    | pt p =>
      cases p with
      | two o x y => cases hlf
      | num i =>
        obtain ⟨a, rfl, ht⟩ := fp
        have hw : (decide (0 ≤ i) && decide (i < REST)) = true := hok.1
        rw [Bool.and_eq_true, decide_eq_true_eq, decide_eq_true_eq] at hw
        exact lw_leaf (pre := "") ht h0 (by decide +kernel) (by kernel_rfl) hw.1 hw.2 (by decide) (by rw [nil_str]; rfl) q
      | name k =>
        obtain ⟨a, rfl, ht⟩ := fp
        have hw : decide (k < na) = true := hok.1
        rw [decide_eq_true_eq] at hw
        exact lw_leaf (pre := "n") ht h0 (by decide +kernel) (by kernel_rfl) (by omega) (by omega) (by decide) rfl q
      | cell k =>
        obtain ⟨a, rfl, ht⟩ := fp
        have hw : decide (k < nb) = true := hok.1
        rw [decide_eq_true_eq] at hw
        exact lw_leaf (pre := "c") ht h0 (by decide +kernel) (by kernel_rfl) (by omega) (by omega) (by decide) rfl q
  | false =>
    obtain ⟨a, its, rfl, ht, pcs⟩ := tngAt_pcs hlf fp
    have hws := Th.words hlf
    have hwl := Th.ws_len hok
    have hfit := t.fits
    have hpo := Th.okp hna hnb hprm hok
    have hpl := pcs.len
    have hin := Th.word_in hlf
    generalize t.word = wd at ht hws hfit hin
    generalize t.pcs = pl at pcs hws hfit hpo hpl
    rw [hws] at hwl q
    rw [st_f_law_words]
    unfold t_f_law_words
    walk_at "st"
    refine w_ixT ht (atI_nat (j := 0) (v := .str wd) rfl) ?_
    walk_at "st"
    refine k_tup (K := K) h0 fun p H1 i1 s1 f1 => ?_
    refine w_in (.inr f1) rfl rfl ?_
    rw [hin]
    walk_at "st"
    refine w_ixT (i1.t ht) (atI_nat (j := 0) (v := .str wd) rfl) ?_
    walk_at "st"
    refine k_lst s1 fun l0 H2 i2 s2 => ?_
    walk_at "st"
    have ht2 := (i1.trans i2).t ht
    refine w_slA s2 ht2 fun r H3 i3 s3 f3 => ?_
    have ecut : cutV (V.str wd :: its) (some 1) none = its := by
      rw [cut1]; rfl
    rw [ecut] at f3
    have i03 := i1.trans (i2.trans i3)
    refine w_itt f3 ?_
    refine k_forT (xs := its) (fun i σ H4 => ∃ l x2 x3, σ = [some (.ref a), some (.ref l), x2, x3] ∧ Imm H3 H4 ∧ Sep H4 (cellA l (.lst ((wd :: pcsW (pl.take i)).map V.str)) :: L))
      ⟨_, _, _, rfl, .refl _, s3⟩ (fun i σ H4 _ hP => by obtain ⟨_, _, _, _, im, _⟩ := hP; exact im.t f3) (fun i u σ H4 hi hu hP => ?_) fun σ H4 hP => ?_
    · obtain ⟨l, x2, x3, rfl, i4, s4⟩ := hP
      obtain ⟨pc, epc, hpc⟩ := pcs.get hu
      have hpc := hpc.mono (i03.trans i4)
      have hfi := hfit pc (List.mem_of_getElem? epc)
      have hpi := hpo pc (List.mem_of_getElem? epc)
      have hsn : pcsW (pl.take (i + 1)) = pcsW (pl.take i) ++ pc.ws := by rw [take_snoc epc, pcsW_snoc]
      have hle : (pcsW (pl.take (i + 1))).length ≤ (pcsW pl).length := by
        have e1 : pcsW pl = pcsW (pl.take (i + 1)) ++ pcsW (pl.drop (i + 1)) := by rw [← pcsW_app, List.take_append_drop]
        rw [e1, List.length_append]; exact Nat.le_add_right _ _
      have hwl2 : (pcsW pl).length + 1 ≤ 400 := hwl
      have hle2 : (pcsW (pl.take i)).length + pc.ws.length ≤ 400 := by rw [hsn, List.length_append] at hle; omega
      have ht4 := (i03.trans i4).t ht
      have fin : ∀ l2 H5 z2 z3, Imm H4 H5 → Sep H5 (cellA l2 (.lst ((wd :: pcsW (pl.take i)).map V.str ++ pc.ws.map V.str)) :: L) → ∃ l x2 x3, ([some (.ref a), some (.ref l2), z2, z3] : L2.St) = [some (.ref a), some (.ref l), x2, x3] ∧ Imm H3 H5 ∧ Sep H5 (cellA l (.lst ((wd :: pcsW (pl.take (i + 1))).map V.str)) :: L) := fun l2 H5 z2 z3 im hS => by
        refine ⟨_, _, _, rfl, i4.trans im, ?_⟩
        rw [hsn, show (wd :: (pcsW (pl.take i) ++ pc.ws)) = (wd :: pcsW (pl.take i)) ++ pc.ws from rfl, List.map_append]
        exact hS
      have hl1 : ((wd :: pcsW (pl.take i)).map V.str).length + pc.ws.length ≤ 401 := by rw [List.length_map, List.length_cons]; omega
      generalize (wd :: pcsW (pl.take i)).map V.str = W0 at s4 fin hl1
      walk_at "st"
      cases pc with
      | nu cc kk =>
        obtain ⟨n0, _⟩ := hpi
        have hpc : u = .int (kk : Nat) := hpc
        subst hpc
        refine w_isi (isi_intT K H4 _) ?_
        walk_at "st"
        refine w_tyL (SqL.of s4.cell) ?_
        walk_at "st"
        refine w_strI (by omega) (by omega) ?_
        walk_at "st"
        refine w_append s4.cell (by omega) ?_
        exact fin _ _ _ _ (s4.imm rfl) (s4.set rfl)
      | pt p =>
        obtain ⟨n1, n2, n3⟩ := hpi
        obtain ⟨pa, pits, rfl, g1⟩ := ppt_get hpc
        refine w_isi (isi_tup g1) ?_
        walk_at "st"
        refine k_tup (K := K) s4 fun p0 H5 i5 s5 f5 => ?_
        refine w_neNilT (i5.t g1) f5 ?_
        walk_at "st"
        refine w_nF ?_
        walk_at "st"
        refine w_ixT (i5.t g1) (atI_nat (j := 0) (v := .str (ptKey p)) rfl) ?_
        walk_at "st"
        refine w_isi (isi_strS K H5 _) ?_
        walk_at "st"
        have hdd : p.dp + 1 ≤ t.dp := n2
        refine ⟨_, .pt p, na, nb, prm, _, rfl, by show p.dp ≤ n; omega, by show p.dp ≤ 8; omega, hpc.mono i5, ⟨n1, by omega⟩, hna, hnb, hprm, s5, fun H6 l6 i6 s6 => ?_⟩
        refine w_cat s6 (s6.pull 1 rfl).cell s6.cell (small (by rw [List.length_map]; show _ + (ptW p).length ≤ 1000; have : (Pc.pt p).ws.length = (ptW p).length := rfl; omega)) fun l7 H7 i7 s7 => ?_
        walk_at "st"
        have s8 : Sep H7 (cellA l7 (.lst (W0 ++ (ptW p).map V.str)) :: cellA l6 (.lst ((ptW p).map V.str)) :: cellA l (.lst W0) :: L) := s7
        exact fin _ _ _ _ (i5.trans (i6.trans i7)) (s8.sel 3 [1, 2, 0]).tail.tail
      | bs y =>
        obtain ⟨n1, n2, n3⟩ := hpi
        obtain ⟨ba, bvs, rfl, g1, g2⟩ := hpc
        have hcall : decide (wd = "call") = false := hfi
        have hbl := g2.len
        refine w_isi (isi_tup g1) ?_
        walk_at "st"
        refine k_tup (K := K) s4 fun p0 H5 i5 s5 f5 => ?_
        refine w_neNilT (i5.t g1) f5 ?_
        walk_at "st"
        refine w_andC false (fun hc QB hb => ?_) ?_
        · cases y with
          | nil => rw [show bvs = [] from g2] at hc; cases hc
          | cons d0 y0 =>
            obtain ⟨v0, vr, rfl, k1, k2⟩ := id g2
            obtain ⟨da, dits, rfl, k3⟩ := pdd_get k1
            refine w_b ?_
            walk_at "st"
            refine w_ixT (i5.t g1) (atI_nat (j := 0) (v := .ref da) rfl) ?_
            walk_at "st"
            refine w_isi (isi_tupS (i5.t k3)) ?_
            walk_at "st"
            exact hb
        rw [Bool.and_false]
        walk_at "st"
        refine w_ixT (i5.t ht4) (atI_nat (j := 0) (v := .str wd) rfl) ?_
        walk_at "st"
        rw [hcall]
        walk_at "st"
        refine w_itt (i5.t g1) ?_
        refine k_forT (xs := bvs) (fun m σ H7 => ∃ l2 z3, σ = [some (.ref a), some (.ref l2), some (.ref ba), z3] ∧ Imm H5 H7 ∧ Sep H7 (cellA l2 (.lst (W0 ++ (ddsW (y.take m)).map V.str)) :: L))
          ⟨_, _, rfl, .refl _, by simpa [ddsW] using s5⟩ (fun m σ H7 _ hP => by obtain ⟨_, _, _, im, _⟩ := hP; exact (i5.trans im).t g1) (fun m u2 σ H7 hm hu2 hP => ?_) fun σ H7 hP => ?_
        · obtain ⟨l2, z3, rfl, i7, h7⟩ := hP
          obtain ⟨dd, ed, hdd⟩ := g2.get hu2
          have w1 := wfDs_get n1 ed
          have w2 := dpDs_get ed
          have w3 := szDs_le1 ed
          have e1 := ddsW_len (y.take m)
          have e2 := ddW_len dd
          walk_at "st"
          refine ⟨u2, .dd dd, na, nb, prm, _, rfl, by show dd.dp ≤ n; omega, by show dd.dp ≤ 8; omega, hdd.mono (i5.trans i7), ⟨w1, by omega⟩, hna, hnb, hprm, h7, fun H8 l8 i8 h8 => ?_⟩
          refine w_cat h8 (h8.pull 1 rfl).cell h8.cell (small (by simp only [List.length_map, List.length_append]; show _ + (ddW dd).length ≤ 1000; omega)) fun l9 H9 i9 h9 => ?_
          walk_at "st"
          have h10 : Sep H9 (cellA l9 (.lst (W0 ++ (ddsW (y.take m)).map V.str ++ (ddW dd).map V.str)) :: cellA l8 (.lst ((ddW dd).map V.str)) :: cellA l2 (.lst (W0 ++ (ddsW (y.take m)).map V.str)) :: L) := h9
          refine ⟨_, _, rfl, i7.trans (i8.trans i9), ?_⟩
          rw [take_snoc ed, ddsW_snoc, List.map_append, ← List.append_assoc]
          exact (h10.sel 3 [1, 2, 0]).tail.tail
        · obtain ⟨l2, z3, rfl, i7, h7⟩ := hP
          rw [hbl, List.take_length] at h7
          walk_at "st"
          refine w_ixT ((i5.trans i7).t ht4) (atI_nat (j := 0) (v := .str wd) rfl) ?_
          walk_at "st"
          rw [hcall]
          walk_at "st"
          refine w_tyL (SqL.of h7.cell) ?_
          walk_at "st"
          have e3 : (Pc.bs y).ws.length = (ddsW y).length + 1 := by show (ddsW y ++ endW).length = _; rw [List.length_append]; rfl
          refine w_append h7.cell (by rw [List.length_append, List.length_map]; omega) ?_
          refine fin _ _ _ _ (i5.trans (i7.trans (h7.imm rfl))) ?_
          have e4 : W0 ++ (Pc.bs y).ws.map V.str = W0 ++ (ddsW y).map V.str ++ [V.str "end"] := by
            show W0 ++ (ddsW y ++ endW).map V.str = _
            rw [List.map_append, List.append_assoc]; rfl
          rw [e4]
          exact h7.set rfl
      | ps y =>
        obtain ⟨n1, n2, n3⟩ := hpi
        obtain ⟨ba, bvs, rfl, g1, g2⟩ := hpc
        have hcall : decide (wd = "call") = true := hfi
        have hbl := g2.len
        have hyl := szPs_len y
        refine w_isi (isi_tup g1) ?_
        walk_at "st"
        refine k_tup (K := K) s4 fun p0 H5 i5 s5 f5 => ?_
        refine w_neNilT (i5.t g1) f5 ?_
        walk_at "st"
        refine w_andC false (fun hc QB hb => ?_) ?_
        · cases y with
          | nil => rw [show bvs = [] from g2] at hc; cases hc
          | cons d0 y0 =>
            obtain ⟨v0, vr, rfl, k1, k2⟩ := id g2
            obtain ⟨da, dits, rfl, k3⟩ := ppt_get k1
            refine w_b ?_
            walk_at "st"
            refine w_ixT (i5.t g1) (atI_nat (j := 0) (v := .ref da) rfl) ?_
            walk_at "st"
            refine w_isi (isi_tupS (i5.t k3)) ?_
            walk_at "st"
            exact hb
        rw [Bool.and_false]
        walk_at "st"
        refine w_ixT (i5.t ht4) (atI_nat (j := 0) (v := .str wd) rfl) ?_
        walk_at "st"
        rw [hcall]
        walk_at "st"
        refine w_tyL (SqL.of s5.cell) ?_
        walk_at "st"
        refine w_lenT (i5.t g1) ?_
        walk_at "st"
        rw [hbl]
        refine w_strI (by omega) (by omega) ?_
        walk_at "st"
        refine w_append s5.cell (by omega) ?_
        have s6 := s5.set (o' := .lst (W0 ++ [.str (nW (y.length : Nat))])) rfl
        have i6 := s5.imm (o' := .lst (W0 ++ [.str (nW (y.length : Nat))])) rfl
        generalize upd H5 l (.lst (W0 ++ [.str (nW (y.length : Nat))])) = H6 at s6 i6 ⊢
        have i56 := i5.trans i6
        walk_at "st"
        refine w_itt (i56.t g1) ?_
        refine k_forT (xs := bvs) (fun m σ H7 => ∃ l2 z3, σ = [some (.ref a), some (.ref l2), some (.ref ba), z3] ∧ Imm H6 H7 ∧ Sep H7 (cellA l2 (.lst (W0 ++ [.str (nW (y.length : Nat))] ++ (ptsW (y.take m)).map V.str)) :: L))
          ⟨_, _, rfl, .refl _, by simpa [ptsW] using s6⟩ (fun m σ H7 _ hP => by obtain ⟨_, _, _, im, _⟩ := hP; exact (i56.trans im).t g1) (fun m u2 σ H7 hm hu2 hP => ?_) fun σ H7 hP => ?_
        · obtain ⟨l2, z3, rfl, i7, h7⟩ := hP
          obtain ⟨pp, ed, hdd⟩ := g2.get hu2
          have w1 := wfPs_get n1 ed
          have w2 := dpPs_get ed
          have w3 := szPs_take ed
          have w4 := szPs_le y (m + 1)
          have e1 := ptsW_len (y.take m)
          have e2 := ptW_len pp
          walk_at "st"
          refine ⟨u2, .pt pp, na, nb, prm, _, rfl, by show pp.dp ≤ n; omega, by show pp.dp ≤ 8; omega, hdd.mono (i56.trans i7), ⟨w1, by omega⟩, hna, hnb, hprm, h7, fun H8 l8 i8 h8 => ?_⟩
          refine w_cat h8 (h8.pull 1 rfl).cell h8.cell (small (by simp only [List.length_map, List.length_append, List.length_cons, List.length_nil]; show _ + (ptW pp).length ≤ 1000; omega)) fun l9 H9 i9 h9 => ?_
          walk_at "st"
          have h10 : Sep H9 (cellA l9 (.lst (W0 ++ [.str (nW (y.length : Nat))] ++ (ptsW (y.take m)).map V.str ++ (ptW pp).map V.str)) :: cellA l8 (.lst ((ptW pp).map V.str)) :: cellA l2 (.lst (W0 ++ [.str (nW (y.length : Nat))] ++ (ptsW (y.take m)).map V.str)) :: L) := h9
          refine ⟨_, _, rfl, i7.trans (i8.trans i9), ?_⟩
          rw [take_snoc ed, ptsW_snoc, List.map_append, ← List.append_assoc]
          exact (h10.sel 3 [1, 2, 0]).tail.tail
        · obtain ⟨l2, z3, rfl, i7, h7⟩ := hP
          rw [hbl, List.take_length] at h7
          walk_at "st"
          refine w_ixT ((i56.trans i7).t ht4) (atI_nat (j := 0) (v := .str wd) rfl) ?_
          walk_at "st"
          rw [hcall]
          walk_at "st"
          refine fin _ _ _ _ (i56.trans i7) ?_
          have e4 : W0 ++ (Pc.ps y).ws.map V.str = W0 ++ [V.str (nW (y.length : Nat))] ++ (ptsW y).map V.str := by
            show W0 ++ (V.str (nW (y.length : Nat)) :: (ptsW y).map V.str) = _
            rw [List.append_assoc]; rfl
          rw [e4]
          exact h7
    · obtain ⟨l, x2, x3, rfl, i4, s4⟩ := hP
      rw [hpl, List.take_length] at s4
      walk_at "st"
      exact q H4 l (i03.trans i4) s4
end SD
set_option Elab.async false
set_option linter.all false
set_option maxRecDepth 100000
set_option maxHeartbeats 4000000
namespace SD
--@L law_k13_texts
open PySem PySem.Spec PyProof.Rows L2
local macro_rules | `(tactic| walk_at "s1") => `(tactic| first
  | with_reducible refine w_nT ?_
  | with_reducible refine w_nF ?_
  | with_reducible refine w_frzS ?_
  | with_reducible refine w_seq ?_
  | with_reducible refine w_next ?_
  | with_reducible refine w_asg ?_
  | with_reducible refine w_drop ?_
  | with_reducible refine w_ret ?_
  | with_reducible refine w_retN ?_
  | with_reducible refine w_ifs ?_
  | with_reducible refine w_par ?_
  | with_reducible refine w_c ?_
  | with_reducible refine w_nil ?_
  | with_reducible refine w_cons ?_
  | with_reducible refine w_op ?_
  | with_reducible refine w_un ?_
  | with_reducible refine w_rI0 ?_
  | with_reducible refine w_rU ?_
  | with_reducible refine w_test ?_
  | with_reducible refine w_b ?_
  | with_reducible refine w_bl ?_
  | with_reducible refine w_and ?_
  | with_reducible refine w_or ?_
  | with_reducible refine w_not ?_
  | with_reducible refine w_andV ?_
  | with_reducible refine w_orV ?_
  | with_reducible refine w_notV ?_
  | with_reducible refine w_if ?_
  | with_reducible refine w_chain ?_
  | with_reducible refine w_eqI ?_
  | with_reducible refine w_neI ?_
  | with_reducible refine w_eqS ?_
  | with_reducible refine w_neS ?_
  | with_reducible refine w_pcons ?_
  | with_reducible refine w_pnil ?_
  | with_reducible refine w_dget ?_
  | with_reducible refine w_dget2 ?_
  | with_reducible refine w_dput ?_
  | with_reducible refine w_neB ?_
  | with_reducible refine w_eqB ?_
  | with_reducible refine w_isNb ?_
  | with_reducible refine w_isNs ?_
  | with_reducible refine w_min ?_
  | with_reducible refine w_max ?_
  | with_reducible refine w_isNn ?_
  | with_reducible refine w_isNi ?_
  | with_reducible refine w_isNr ?_
  | with_reducible refine w_notNn ?_
  | with_reducible refine w_notNi ?_
  | with_reducible refine w_notNr ?_
  | with_reducible refine w_call ?_
  | with_reducible refine w_cb ?_
  | with_reducible refine w_meth ?_
  | with_reducible refine w_make ?_
  | with_reducible refine w_tup ?_
  | with_reducible refine w_lst ?_
  | with_reducible refine w_int1b ?_
  | with_reducible refine w_int1 ?_
  | with_reducible refine w_gNil ?_
  | with_reducible refine w_gCons ?_
  | with_reducible refine w_gSub ?_
  | with_reducible refine w_bm ?_
  | with_reducible refine w_sl ?_
  | with_reducible refine w_part ?_
  | with_reducible refine w_partI ?_
  | with_reducible refine w_noPart ?_
  | with_reducible refine w_for ?_
  | with_reducible refine w_lc ?_
  | with_reducible refine w_rng1 ?_
  | with_reducible refine w_iList ?_
  | with_reducible refine w_iTup ?_
  | with_reducible refine w_break ?_
  | with_reducible refine w_cont ?_
  | ((with_reducible refine' w_var ?h ?_); (case h => exact rfl))
  | ((with_reducible refine' w_gName ?h ?_); (case h => (simp only [wipe, List.set]; rfl)))
  | ((with_reducible refine' w_par2 ?h ?_); (case h => (simp only [wipe, List.set]; rfl)))
  | ((with_reducible refine' w_mod ?h ?_); (case h => omega))
  | ((with_reducible refine' w_mul ?h ?_); (case h => omega))
  | ((with_reducible refine' w_rng1I ?h ?_); (case h => omega))
  | with_reducible refine iteT ?_
  | with_reducible refine iteF ?_
  | ((with_reducible refine' iteDT ?h ?_); (case h => omega))
  | ((with_reducible refine' iteDF ?h ?_); (case h => omega))
  | ((with_reducible refine' iteNT ?h ?_); (case h => omega))
  | ((with_reducible refine' iteNF ?h ?_); (case h => omega))
  | ((with_reducible refine' iteDT ?h ?_); (case h => decide +kernel))
  | ((with_reducible refine' iteDF ?h ?_); (case h => decide +kernel))
  | ((with_reducible refine' iteNT ?h ?_); (case h => decide +kernel))
  | ((with_reducible refine' iteNF ?h ?_); (case h => decide +kernel))
  | fail "stop")
local macro_rules | `(tactic| walk_at "st") => `(tactic| (walk_at "s1"; repeat' walk_at "s1"))
/-! ### number_of -/
def figB (c : Nat) : Bool := decide (c ∈ ("0123456789" : Str).cps.toList)
theorem figB_iff {c : Nat} : figB c = true ↔ 48 ≤ c ∧ c ≤ 57 := by
  have e : ("0123456789" : Str).cps.toList = [48, 49, 50, 51, 52, 53, 54, 55, 56, 57] := by decide +kernel
  unfold figB
  rw [e, decide_eq_true_eq]
  simp only [List.mem_cons, List.not_mem_nil, or_false]
  omega
def numOf (x : Str) : Option Nat :=
  if decide (1 ≤ x.cps.toList.length) && (decide (x.cps.toList.length ≤ 5) && (x.cps.toList.all figB && !(decide (x.cps.toList.head? = some 48) && decide (2 ≤ x.cps.toList.length)))) then some (NumText.digitsVal x.cps.toList) else none
def numV : Option Nat → V
  | none => .non
  | some n => .int (n : Nat)
section
variable {K : PySem.W.Frag} {H : Hp} {σ : L2.St} {Q : VK}
def KIts (R : It → Hp → Prop) (v : V) (H1 : Hp) : Prop := ∃ x, v = .str x ∧ R (Its x) H1
theorem w_iStr {te : TE} {R : It → Hp → Prop} (h : te σ H (KIts R)) : iStr te σ H R := h
theorem k_its {x : Str} {R : It → Hp → Prop} (h : R (Its x) H) : KIts R (.str x) H := ⟨x, rfl, h⟩
theorem k_lcS {L : List As} {z : Str} {g : TG} {tt : TT} {te : TE} {vs : List Nat} (hS : Sep H L) (Pv : Addr → Nat → Hp → Prop) (h0 : ∀ D H', Imm H H' → Sep H' (cellA D (.lst []) :: L) → Pv D 0 H')
    (hs : ∀ D i c H, z.cps[i]? = some c → Pv D i H → KLcB g tt te vs σ D (.str ⟨#[c]⟩) H (Pv D (i + 1))) (hd : ∀ D H, Pv D z.cps.size H → Q (.ref D) H) : KLc g tt te vs σ Q (Its z) H :=
  fun D hD => lc_it walk_str (Pv D) (h0 D _ (Imm.new hD) (hS.new hD)) (fun _ _ _ _ => trivial) (fun i x H H' hi hP hY => by obtain ⟨rfl, c, e, rfl⟩ := hY; exact hs D i c H' e hP) (hd D)
theorem w_lenStr {x : Str} (n : x.length ≤ 1000000) (h : Q (.int x.length) H) : rLenStr [.str x] H Q := ⟨x, rfl, Nat.le_trans n (by decide), h⟩
theorem w_notInS {c : Nat} {z : Str} (h : Q (.bl (!decide (c ∈ z.cps.toList))) H) : rNotInS (.str ⟨#[c]⟩) (.str z) H Q := ⟨c, z, rfl, rfl, h⟩
theorem w_ixS {z : Str} {i : Int} {c : Nat} (n : z.length ≤ 1000000) (e : atI z.cps.toList i = some c) (h : Q (.str ⟨#[c]⟩) H) : rIxS (.str z) (.int i) H Q := ⟨z, i, c, rfl, rfl, Nat.le_trans n (by decide), e, h⟩
theorem w_intStr {x : Str} {n : Int} (e : intText? x = some n) (l : x.length ≤ 640) (h : Q (.int n) H) : rIntStr [.str x] H Q := ⟨x, n, rfl, e, l, h⟩
end
def sp_number_of (K : PySem.W.Frag) (w : World) : Sp := fun vs H Q _ => ∃ (x : Str) (L : List As), vs = [.str x] ∧ x.length ≤ 1000000 ∧ Sep H L ∧ ∀ H', Imm H H' → Sep H' L → Q (numV (numOf x)) H'
theorem nonfig_nil {l : List Nat} : ((l.filter fun c => !figB c).map fun c => V.str ⟨#[c]⟩).isEmpty = l.all figB := by
  induction l with
  | nil => rfl
  | cons c r ih =>
    rw [List.filter_cons]
    cases h : figB c with
    | true => simpa [h] using ih
    | false => simp [h]
theorem one_sign {c : Nat} : decide ((⟨#[c]⟩ : Str) = "0") = decide (c = 48) := by
  have e : ((⟨#[c]⟩ : Str) = "0") = (c = 48) := propext ⟨fun h => by
    have h : (⟨#[c]⟩ : Str) = ⟨#[48]⟩ := h
    injection h with h; injection h with h; injection h, fun h => by rw [h]; rfl⟩
  simp only [e]
theorem is_zero {x : Str} : decide (x = "0") = decide (x.cps.toList = [48]) := by
  have e : (x = "0") = (x.cps.toList = [48]) := propext ⟨fun h => by rw [h]; rfl, fun h => TL.ext_tl h⟩
  simp only [e]
theorem TLint {x : Str} (h : x.cps.toList.all figB = true) (h1 : x.cps.toList ≠ []) (h2 : x.length ≤ 4300) : intText? x = some ((NumText.digitsVal x.cps.toList : Nat) : Int) :=
  intText_digits (fun c hc => figB_iff.mp (List.all_eq_true.mp h c hc)) h1 h2
abbrev n_f_number_of : List Str := ["word", "sign"]
def t_f_number_of (K : PySem.W.Frag) (w : World)  : TS :=
 (tSeq (tIfS (tOr (tNot (tTest (tChain (rI0 fun i j => .bl (decide (i ≤ j))) (rI0 fun i j => .bl (decide (i ≤ j))) (tC (.int 1)) (tCB rLenStr (tCons (tVar 0) tNil)) (tC (.int 5))))) (tTest (tOp (rEqNil K true) (tLc (iStr (tVar 0)) (gName 1) (tTest (tOp rNotInS (tVar 1) (tC (.str "0123456789")))) (tVar 1) [1]) (tLst tNil)))) (tRet (tC .non)) tNext)
 (tRet (tIf (tAnd (tTest (tOp rEq (tOp rIxS (tVar 0) (tC (.int 0))) (tC (.str "0")))) (tTest (tOp rNe (tVar 0) (tC (.str "0"))))) (tC .non) (tCB rIntStr (tCons (tVar 0) tNil)))))
theorem st_f_number_of {x0 : V} : start n_f_number_of [x0] = [some x0, none] := rfl
theorem pu_f_number_of {K : PySem.W.Frag} {w : World} (vs : List V) (H : Hp) (Q : VK) (E : XK) (h : sp_number_of K w vs H Q E) : t_f_number_of K w { nx := fun _ H' => Q .non H', rt := Q } (start n_f_number_of vs) H := by
  obtain ⟨x, L, rfl, hn, h0, q⟩ := h
  have hlen : x.length = x.cps.toList.length := Array.length_toList.symm
  have hsz : x.cps.size = x.cps.toList.length := Array.length_toList.symm
  rw [st_f_number_of]
  unfold t_f_number_of
  walk_at "st"
  refine w_lenStr hn ?_
  walk_at "st"
  by_cases h1 : (1 : Int) ≤ (x.length : Nat)
  · rw [decide_eq_true h1]
    walk_at "st"
    by_cases h2 : ((x.length : Nat) : Int) ≤ 5
    · rw [decide_eq_true h2]
      walk_at "st"
      refine w_iStr ?_
      walk_at "st"
      refine k_its ?_
      refine k_lcS h0 (fun D i H1 => Imm H H1 ∧ Sep H1 (cellA D (.lst (((x.cps.toList.take i).filter fun c => !figB c).map fun c => V.str ⟨#[c]⟩)) :: L)) (fun D H' i h => ⟨i, h⟩) (fun D i c H1 hc hP => ?_) fun D H1 hP => ?_
      · obtain ⟨i1, s1⟩ := hP
        have hc2 : x.cps.toList[i]? = some c := by simpa using hc
        refine k_lcB ?_
        walk_at "st"
        refine ⟨rfl, ?_⟩
        walk_at "st"
        refine w_notInS ?_
        walk_at "st"
        rw [show decide (c ∈ ("0123456789" : Str).cps.toList) = figB c from rfl]
        have hi : i < 5 := by
          have := (List.getElem?_eq_some_iff.mp hc2).1
          omega
        cases hf : figB c with
        | true =>
          refine iteF ?_
          refine ⟨i1, ?_⟩
          rw [take_snoc hc2, List.filter_append, show [c].filter (fun c => !figB c) = [] by simp [hf], List.append_nil]
          exact s1
        | false =>
          refine iteT ?_
          walk_at "st"
          refine k_acc s1.cell ?_ ⟨i1.trans (s1.imm rfl), ?_⟩
          · rw [List.length_map]
            refine Nat.lt_of_le_of_lt (List.length_filter_le _ _) ?_
            rw [List.length_take]; omega
          · rw [take_snoc hc2, List.filter_append, show [c].filter (fun c => !figB c) = [c] by simp [hf], List.map_append]
            exact s1.set rfl
      · obtain ⟨i1, s1⟩ := hP
        rw [hsz, List.take_length] at s1
        walk_at "st"
        refine k_lst (xs := []) s1 fun l H2 i2 s2 => ?_
        refine w_neNil (L := L) (SqL.of (s2.pull 1 rfl).cell) (SqL.of s2.cell) ?_
        rw [nonfig_nil]
        walk_at "st"
        have fin := q H2 (i1.trans i2) s2.tail.tail
        unfold numOf at fin
        rw [decide_eq_true (show 1 ≤ x.cps.toList.length by omega), decide_eq_true (show x.cps.toList.length ≤ 5 by omega)] at fin
        cases hf : x.cps.toList.all figB with
        | false =>
          rw [hf] at fin
          refine iteT ?_
          walk_at "st"
          exact fin
        | true =>
          rw [hf] at fin
          refine iteF ?_
          walk_at "st"
          cases hx : x.cps.toList with
          | nil => rw [hx] at hlen; simp at hlen; omega
          | cons c r =>
            refine w_ixS (c := c) hn (by rw [hx]; exact atI_nat (j := 0) rfl) ?_
            walk_at "st"
            rw [one_sign]
            have hval : intText? x = some ((NumText.digitsVal x.cps.toList : Nat) : Int) := TLint hf (by rw [hx]; exact List.cons_ne_nil _ _) (by omega)
            by_cases h48 : c = 48
            · rw [decide_eq_true h48]
              walk_at "st"
              rw [is_zero]
              by_cases hr : r = []
              · subst hr
                rw [decide_eq_true (show x.cps.toList = [48] by rw [hx, h48])]
                walk_at "st"
                refine w_intStr hval (by omega) ?_
                rw [hx, h48] at fin ⊢
                exact fin
              · rw [decide_eq_false (show ¬ x.cps.toList = [48] by rw [hx]; intro z; exact hr (List.cons.inj z).2)]
                walk_at "st"
                have hr2 : 2 ≤ (c :: r).length := by
                  cases r with
                  | nil => exact absurd rfl hr
                  | cons d r => simp
                rw [hx, h48] at fin
                rw [decide_eq_true (show 2 ≤ (48 :: r).length from by rw [← h48]; exact hr2)] at fin
                exact fin
            · rw [decide_eq_false h48]
              walk_at "st"
              refine w_intStr hval (by omega) ?_
              rw [hx] at fin ⊢
              rw [decide_eq_false (show ¬ (c :: r).head? = some 48 by intro z; exact h48 (Option.some.inj z))] at fin
              exact fin
    · rw [decide_eq_false h2]
      walk_at "st"
      have fin := q H (.refl _) h0
      unfold numOf at fin
      rw [decide_eq_false (show ¬ x.cps.toList.length ≤ 5 by omega), Bool.false_and, Bool.and_false] at fin
      exact fin
  · rw [decide_eq_false h1]
    walk_at "st"
    have fin := q H (.refl _) h0
    unfold numOf at fin
    rw [decide_eq_false (show ¬ 1 ≤ x.cps.toList.length by omega), Bool.false_and] at fin
    exact fin
/-! of a number's word, of others -/
theorem numL_head : ∀ n : Nat, 10 ≤ n → (TL.numL n).head? ≠ some 48 := fun n => by
  induction n using Nat.strongRecOn with
  | _ n ih =>
    intro h
    rw [TL.numL_step h]
    have hne := TL.numL_ne (n / 10)
    by_cases h2 : 10 ≤ n / 10
    · have e := ih (n / 10) (by omega) h2
      cases hl : TL.numL (n / 10) with
      | nil => exact absurd hl hne
      | cons c r => rw [hl] at e; exact e
    · rw [TL.numL_lt (by omega)]
      intro z
      have z : 48 + n / 10 = 48 := Option.some.inj z
      omega
theorem numL_two {n : Nat} (h : n < 10) : (TL.numL n).length = 1 := by rw [TL.numL_lt h]; rfl
theorem numOf_nW {n : Nat} (h : n < 10007) : numOf (nW (n : Nat)) = some n := by
  have e : (nW (n : Nat)).cps.toList = TL.numL n := TL.tl_num n
  have h1 := numL_small h
  have h2 := TL.numL_ne n
  have h3 : 1 ≤ (TL.numL n).length := List.length_pos_iff.mpr h2
  have h4 : (TL.numL n).all figB = true := List.all_eq_true.mpr fun c hc => figB_iff.mpr (TL.numL_digits n c hc)
  unfold numOf
  rw [e, decide_eq_true h3, decide_eq_true h1, h4, TL.numL_val]
  by_cases h5 : n < 10
  · rw [decide_eq_false (show ¬ 2 ≤ (TL.numL n).length by rw [numL_two h5]; decide), Bool.and_false]; rfl
  · rw [decide_eq_false (numL_head n (by omega)), Bool.false_and]; rfl
theorem numOf_none {x : Str} {c : Nat} (h : c ∈ x.cps.toList) (hf : figB c = false) : numOf x = none := by
  have h4 : x.cps.toList.all figB = false := by
    cases z : x.cps.toList.all figB with
    | false => rfl
    | true => rw [List.all_eq_true.mp z c h] at hf; cases hf
  unfold numOf
  rw [h4, Bool.false_and, Bool.and_false, Bool.and_false]; rfl
end SD
set_option Elab.async false
set_option linter.all false
set_option maxRecDepth 100000
set_option maxHeartbeats 4000000
namespace SD
--@L law_k13_texts
open PySem PySem.Spec PyProof.Rows L2
local macro_rules | `(tactic| walk_at "s1") => `(tactic| first
  | with_reducible refine w_nT ?_
  | with_reducible refine w_nF ?_
  | with_reducible refine w_frzS ?_
  | with_reducible refine w_seq ?_
  | with_reducible refine w_next ?_
  | with_reducible refine w_asg ?_
  | with_reducible refine w_drop ?_
  | with_reducible refine w_ret ?_
  | with_reducible refine w_retN ?_
  | with_reducible refine w_ifs ?_
  | with_reducible refine w_par ?_
  | with_reducible refine w_c ?_
  | with_reducible refine w_nil ?_
  | with_reducible refine w_cons ?_
  | with_reducible refine w_op ?_
  | with_reducible refine w_un ?_
  | with_reducible refine w_rI0 ?_
  | with_reducible refine w_rU ?_
  | with_reducible refine w_test ?_
  | with_reducible refine w_b ?_
  | with_reducible refine w_bl ?_
  | with_reducible refine w_and ?_
  | with_reducible refine w_or ?_
  | with_reducible refine w_not ?_
  | with_reducible refine w_andV ?_
  | with_reducible refine w_orV ?_
  | with_reducible refine w_notV ?_
  | with_reducible refine w_if ?_
  | with_reducible refine w_chain ?_
  | with_reducible refine w_eqI ?_
  | with_reducible refine w_neI ?_
  | with_reducible refine w_eqS ?_
  | with_reducible refine w_neS ?_
  | with_reducible refine w_pcons ?_
  | with_reducible refine w_pnil ?_
  | with_reducible refine w_dget ?_
  | with_reducible refine w_dget2 ?_
  | with_reducible refine w_dput ?_
  | with_reducible refine w_neB ?_
  | with_reducible refine w_eqB ?_
  | with_reducible refine w_isNb ?_
  | with_reducible refine w_isNs ?_
  | with_reducible refine w_min ?_
  | with_reducible refine w_max ?_
  | with_reducible refine w_isNn ?_
  | with_reducible refine w_isNi ?_
  | with_reducible refine w_isNr ?_
  | with_reducible refine w_notNn ?_
  | with_reducible refine w_notNi ?_
  | with_reducible refine w_notNr ?_
  | with_reducible refine w_call ?_
  | with_reducible refine w_cb ?_
  | with_reducible refine w_meth ?_
  | with_reducible refine w_make ?_
  | with_reducible refine w_tup ?_
  | with_reducible refine w_lst ?_
  | with_reducible refine w_int1b ?_
  | with_reducible refine w_int1 ?_
  | with_reducible refine w_gNil ?_
  | with_reducible refine w_gCons ?_
  | with_reducible refine w_gSub ?_
  | with_reducible refine w_bm ?_
  | with_reducible refine w_sl ?_
  | with_reducible refine w_part ?_
  | with_reducible refine w_partI ?_
  | with_reducible refine w_noPart ?_
  | with_reducible refine w_for ?_
  | with_reducible refine w_lc ?_
  | with_reducible refine w_rng1 ?_
  | with_reducible refine w_iList ?_
  | with_reducible refine w_iTup ?_
  | with_reducible refine w_break ?_
  | with_reducible refine w_cont ?_
  | ((with_reducible refine' w_var ?h ?_); (case h => exact rfl))
  | ((with_reducible refine' w_gName ?h ?_); (case h => (simp only [wipe, List.set]; rfl)))
  | ((with_reducible refine' w_par2 ?h ?_); (case h => (simp only [wipe, List.set]; rfl)))
  | ((with_reducible refine' w_mod ?h ?_); (case h => omega))
  | ((with_reducible refine' w_mul ?h ?_); (case h => omega))
  | ((with_reducible refine' w_rng1I ?h ?_); (case h => omega))
  | with_reducible refine iteT ?_
  | with_reducible refine iteF ?_
  | ((with_reducible refine' iteDT ?h ?_); (case h => omega))
  | ((with_reducible refine' iteDF ?h ?_); (case h => omega))
  | ((with_reducible refine' iteNT ?h ?_); (case h => omega))
  | ((with_reducible refine' iteNF ?h ?_); (case h => omega))
  | ((with_reducible refine' iteDT ?h ?_); (case h => decide +kernel))
  | ((with_reducible refine' iteDF ?h ?_); (case h => decide +kernel))
  | ((with_reducible refine' iteNT ?h ?_); (case h => decide +kernel))
  | ((with_reducible refine' iteNF ?h ?_); (case h => decide +kernel))
  | fail "stop")
local macro_rules | `(tactic| walk_at "st") => `(tactic| (walk_at "s1"; repeat' walk_at "s1"))
/-! ### a Reader -/
def rdO (K : PySem.W.Frag) (dx l : Addr) (i : Nat) : HO := .ins (He.ga K "Reader") dx (flReader (.ref l) (.int (i : Nat)))
def rdA (K : PySem.W.Frag) (r : Addr) (ws : List Str) (i : Nat) : As := ⟨fun c H => ∃ dx l, c = [(r, rdO K dx l i), (l, .lst (ws.map V.str))], fun _ h => h⟩
section
variable {K : PySem.W.Frag} {w : World} {H : Hp} {L : List As} {Q : VK} {r : Addr} {ws : List Str} {i : Nat} {σ : L2.St} {D : Ends}
theorem Sep.rd (h : Sep H (rdA K r ws i :: L)) : ∃ dx l, H r = some (rdO K dx l i) ∧ H l = some (.lst (ws.map V.str)) ∧ ∀ j, Imm H (upd H r (rdO K dx l j)) ∧ Sep (upd H r (rdO K dx l j)) (rdA K r ws j :: L) := by
  obtain ⟨c, R, ⟨dx, l, rfl⟩, h2, h3⟩ := h.open
  have g : Holds H ((r, rdO K dx l i) :: (l, .lst (ws.map V.str)) :: R) := h2
  exact ⟨dx, l, g.head, g.tail.head, fun j => ⟨Imm.upd g.head rfl, Sep.close ⟨dx, l, rfl⟩ g.upd (h3.mono (Imm.upd g.head rfl))⟩⟩
def KXat (K : PySem.W.Frag) (Q : VK) (x : V) (H1 : Hp) : Prop := ∃ a dx v0 v1, x = .ref a ∧ H1 a = some (.ins (He.ga K "Reader") dx (flReader v0 v1)) ∧ Q v1 H1
def KXwords (K : PySem.W.Frag) (Q : VK) (x : V) (H1 : Hp) : Prop := ∃ a dx v0 v1, x = .ref a ∧ H1 a = some (.ins (He.ga K "Reader") dx (flReader v0 v1)) ∧ Q v0 H1
theorem w_xat {ta : TE} (h : ta σ H (KXat K Q)) : xfReader_at K ta σ H Q := h
theorem w_xwords {ta : TE} (h : ta σ H (KXwords K Q)) : xfReader_words K ta σ H Q := h
theorem k_xat {dx l : Addr} (f : H r = some (rdO K dx l i)) (h : Q (.int (i : Nat)) H) : KXat K Q (.ref r) H := ⟨r, dx, _, _, rfl, f, h⟩
theorem k_xwords {dx l : Addr} (f : H r = some (rdO K dx l i)) (h : Q (.ref l) H) : KXwords K Q (.ref r) H := ⟨r, dx, _, _, rfl, f, h⟩
def KSat (K : PySem.W.Frag) (D : Ends) (σ : L2.St) (y x : V) (H2 : Hp) : Prop := ∃ a dx v0 v1, x = .ref a ∧ H2 a = some (.ins (He.ga K "Reader") dx (flReader v0 v1)) ∧ D.nx σ (upd H2 a (.ins (He.ga K "Reader") dx (flReader v0 y)))
theorem w_sat {ta tv : TE} (h : tv σ H fun y H1 => ta σ H1 (KSat K D σ y)) : xsReader_at K ta tv D σ H := h
theorem k_sat {dx l : Addr} {y : Int} (j : Nat) (e : y = (j : Nat)) (f : H r = some (rdO K dx l i)) (h : D.nx σ (upd H r (rdO K dx l j))) : KSat K D σ (.int y) (.ref r) H := ⟨r, dx, _, _, rfl, f, by rw [e]; exact h⟩
theorem inV_strs {y : Str} : ∀ xs : List Str, inV (.str y) (xs.map V.str) = decide (y ∈ xs)
  | [] => rfl
  | x :: t => by
    show ((x == y) || inV (.str y) (t.map V.str)) = _
    rw [inV_strs t]
    by_cases h : x = y
    · subst h; simp
    · have h2 : (x == y) = false := by simpa using h
      rw [h2, Bool.false_or]
      by_cases h3 : y ∈ t
      · rw [decide_eq_true h3, decide_eq_true (List.mem_cons_of_mem _ h3)]
      · rw [decide_eq_false h3, decide_eq_false (fun z => (List.mem_cons.mp z).elim (fun e => h e.symm) h3)]
theorem flat_strs (xs : List Str) : (xs.map V.str).all flatV = true := by
  rw [List.all_eq_true]
  intro x hx
  obtain ⟨y, _, rfl⟩ := List.mem_map.mp hx
  rfl
theorem rd_meth {m : Str} {sp : Sp} {dvs : List V} {E : XK} {t : TA} (h : Sep H (rdA K r ws i :: L)) (nm : ∀ {v0 v1 : V}, (flReader v0 v1).lookup m = none) (q : t σ H fun vs H2 => sp (.ref r :: (vs ++ dvs)) H2 Q E) : KMeth (He.ga K "Reader") m sp dvs E t σ Q (.ref r) H := by
  obtain ⟨dx, l, e, _⟩ := h.rd
  exact k_meth e nm q
end
theorem drop_head {α : Type} {ws t : List α} {i : Nat} {y : α} (h : ws.drop i = y :: t) : ws[i]? = some y ∧ ws.drop (i + 1) = t := by
  constructor
  · have := congrArg (·[0]?) h
    simpa using this
  · rw [← List.tail_drop, h]; rfl
theorem drop_app {α : Type} {ws a t : List α} {i : Nat} (h : ws.drop i = a ++ t) : ws.drop (i + a.length) = t := by
  rw [← List.drop_drop, h, List.drop_left]
def sp_Reader_init (K : PySem.W.Frag) (w : World) : Sp := fun vs H Q _ => ∃ (x dx : Addr) (z : Str) (L : List As), vs = [.ref x, .str z] ∧ z.length ≤ 1000000 ∧ z ≠ "" ∧ Sep H (cellA x (.ins (He.ga K "Reader") dx []) :: L) ∧
  ∀ H', Imm H H' → Sep H' (rdA K x (Txt.split z " ") 0 :: L) → Q .non H'
abbrev n_m_Reader_init : List Str := ["self", "text"]
def t_m_Reader_init (K : PySem.W.Frag) (w : World)  : TS :=
 (tSeq (sFld K (tVar 0) (tIf (tTest (tOp rNe (tVar 1) (tC (.str "")))) (tBM K "str" rSplitS (tVar 1) (tCons (tC (.str " ")) tNil)) (tLst tNil)) "words")
 (sFld K (tVar 0) (tC (.int 0)) "at"))
theorem st_m_Reader_init {x0 x1 : V} : start n_m_Reader_init [x0, x1] = [some x0, some x1] := rfl
theorem pu_m_Reader_init {K : PySem.W.Frag} {w : World} (F : Fcts K) (vs : List V) (H : Hp) (Q : VK) (E : XK) (h : sp_Reader_init K w vs H Q E) : t_m_Reader_init K w { nx := fun _ H' => Q .non H', rt := Q } (start n_m_Reader_init vs) H := by
  obtain ⟨x, dx, z, L, rfl, hz, hne, h0, q⟩ := h
  rw [st_m_Reader_init]
  unfold t_m_Reader_init
  walk_at "st"
  show (tIf _ _ _) _ H _
  refine w_if ?_
  walk_at "st"
  refine w_tyS ?_
  walk_at "st"
  refine ⟨z, " ", rfl, rfl, by decide +kernel, by have : 1000002 ≤ sizeLine := by decide
                                                  omega, fun p hp => ?_⟩
  have s1 := h0.new (o := .lst ((Txt.split z " ").map V.str)) hp
  have i1 := Imm.new (o := .lst ((Txt.split z " ").map V.str)) hp
  generalize upd H p (.lst ((Txt.split z " ").map V.str)) = H1 at s1 i1 ⊢
  have s2 := s1.swap
  refine ⟨_, rfl, x, _, dx, _, rfl, s2.cell, F.clReader, F.naReader_words, (by show 0 < 1000; decide), ?_⟩
  have i3 := s2.imm (o' := .ins (He.ga K "Reader") dx (putF "words" (.ref p) [])) rfl
  have s3 := s2.set (o' := .ins (He.ga K "Reader") dx (putF "words" (.ref p) [])) rfl
  refine ⟨_, rfl, x, _, dx, _, rfl, s3.cell, F.clReader, F.naReader_at, (by show 1 < 1000; decide), ?_⟩
  have i4 := s3.imm (o' := .ins (He.ga K "Reader") dx (putF "at" (.int 0) (putF "words" (.ref p) []))) rfl
  have s4 := s3.set (o' := .ins (He.ga K "Reader") dx (putF "at" (.int 0) (putF "words" (.ref p) []))) rfl
  refine q _ (i1.trans (i3.trans i4)) ?_
  rw [inReader] at s4 ⊢
  exact s4.merge fun c1 c2 e1 e2 => ⟨dx, p, by rw [show c1 = _ from e1, show c2 = _ from e2]; rfl⟩
def sp_Reader_word (K : PySem.W.Frag) (w : World) : Sp := fun vs H Q _ => ∃ (r : Addr) (ws : List Str) (i : Nat) (y : Str) (so : V) (L : List As), vs = [.ref r, so] ∧ ws[i]? = some y ∧ (so = .non ∨ ∃ (p : Addr) (xs : List Str), so = .ref p ∧ SqL K H p (xs.map V.str) ∧ y ∈ xs) ∧ Sep H (rdA K r ws i :: L) ∧
  ∀ H', Imm H H' → Sep H' (rdA K r ws (i + 1) :: L) → Q (.str y) H'
abbrev n_m_Reader_word : List Str := ["self", "some"]
def t_m_Reader_word (K : PySem.W.Frag) (w : World)  : TS :=
 (tSeq (tIfS (tOr (tTest (tOp rEq (xfReader_at K (tVar 0)) (tCB (rLenS' K) (tCons (xfReader_words K (tVar 0)) tNil)))) (tAnd (tTest (tOp rNotN (tVar 1) (tC .non))) (tTest (tOp (rIn K true) (tOp (rIxL K) (xfReader_words K (tVar 0)) (xfReader_at K (tVar 0))) (tVar 1))))) tNever tNext)
 (tSeq (xsReader_at K (tVar 0) (tOp (rI0 fun i j => .int (i + j)) (xfReader_at K (tVar 0)) (tC (.int 1))))
 (tRet (tOp (rIxL K) (xfReader_words K (tVar 0)) (tOp (rI0 fun i j => .int (i - j)) (xfReader_at K (tVar 0)) (tC (.int 1)))))))
theorem st_m_Reader_word {x0 x1 : V} : start n_m_Reader_word [x0, x1] = [some x0, some x1] := rfl
theorem pu_m_Reader_word {K : PySem.W.Frag} {w : World} (vs : List V) (H : Hp) (Q : VK) (E : XK) (h : sp_Reader_word K w vs H Q E) : t_m_Reader_word K w { nx := fun _ H' => Q .non H', rt := Q } (start n_m_Reader_word vs) H := by
  obtain ⟨r, ws, i, y, so, L, rfl, hy, hso, h0, q⟩ := h
  obtain ⟨dx, l, e1, e2, hs⟩ := h0.rd
  have hi : i < ws.length := (List.getElem?_eq_some_iff.mp hy).1
  have fin : tSeq (xsReader_at K (tVar 0) (tOp (rI0 fun i j => .int (i + j)) (xfReader_at K (tVar 0)) (tC (.int 1)))) (tRet (tOp (rIxL K) (xfReader_words K (tVar 0)) (tOp (rI0 fun i j => .int (i - j)) (xfReader_at K (tVar 0)) (tC (.int 1))))) { nx := fun _ H' => Q .non H', rt := Q } [some (.ref r), some so] H := by
    refine w_seq (w_sat ?_)
    walk_at "st"
    refine w_xat ?_
    walk_at "st"
    refine k_xat e1 ?_
    walk_at "st"
    refine k_sat (i + 1) (by omega) e1 ?_
    obtain ⟨i3, s3⟩ := hs (i + 1)
    obtain ⟨dx', l', e1', e2', hs'⟩ := s3.rd
    walk_at "st"
    refine w_xwords ?_
    walk_at "st"
    refine k_xwords e1' ?_
    refine w_xat ?_
    walk_at "st"
    refine k_xat e1' ?_
    walk_at "st"
    refine w_ixL (SqL.of e2') (v := .str y) ?_ (q _ i3 s3)
    rw [show ((i + 1 : Nat) : Int) - 1 = (i : Nat) by omega]
    exact atI_nat (by rw [List.getElem?_map, hy]; rfl)
  rw [st_m_Reader_word]
  unfold t_m_Reader_word
  refine w_seq (w_ifs (w_or ?_))
  refine w_test (w_op (w_xat ?_))
  walk_at "st"
  refine k_xat e1 ?_
  walk_at "st"
  refine w_xwords ?_
  walk_at "st"
  refine k_xwords e1 ?_
  walk_at "st"
  refine w_lenL (SqL.of e2) ?_
  walk_at "st"
  rw [decide_eq_false (show ¬ ((i : Nat) : Int) = ((ws.map V.str).length : Nat) by rw [List.length_map]; omega)]
  walk_at "st"
  rcases hso with rfl | ⟨p, xs, rfl, hp, hm⟩
  · walk_at "st"
    exact fin
  · walk_at "st"
    refine w_xwords ?_
    walk_at "st"
    refine k_xwords e1 ?_
    refine w_xat ?_
    walk_at "st"
    refine k_xat e1 ?_
    refine w_ixL (SqL.of e2) (v := .str y) (atI_nat (by rw [List.getElem?_map, hy]; rfl)) ?_
    walk_at "st"
    refine w_notIn (.inl hp) rfl (flat_strs xs) ?_
    rw [inV_strs, decide_eq_true hm]
    walk_at "st"
    exact fin
def sp_Reader_number (K : PySem.W.Frag) (w : World) : Sp := fun vs H Q _ => ∃ (r : Addr) (ws : List Str) (i n : Nat) (L : List As), vs = [.ref r] ∧ ws[i]? = some (nW (n : Nat)) ∧ n < 10007 ∧ Sep H (rdA K r ws i :: L) ∧
  ∀ H', Imm H H' → Sep H' (rdA K r ws (i + 1) :: L) → Q (.int (n : Nat)) H'
abbrev n_m_Reader_number : List Str := ["self", "found"]
def t_m_Reader_number (K : PySem.W.Frag) (w : World)  : TS :=
 (tSeq (tAsg (tCall (sp_number_of K w) [] E0 (tCons (tMeth (He.ga K "Reader") "word" (sp_Reader_word K w) [] E0 (tVar 0) (tCons (tC .non) tNil)) tNil)) (gName 1))
 (tSeq (tIfS (tTest (tOp rIsN (tVar 1) (tC .non))) tNever tNext)
 (tRet (tVar 1))))
theorem st_m_Reader_number {x0 : V} : start n_m_Reader_number [x0] = [some x0, none] := rfl
theorem pu_m_Reader_number {K : PySem.W.Frag} {w : World} (vs : List V) (H : Hp) (Q : VK) (E : XK) (h : sp_Reader_number K w vs H Q E) : t_m_Reader_number K w { nx := fun _ H' => Q .non H', rt := Q } (start n_m_Reader_number vs) H := by
  obtain ⟨r, ws, i, n, L, rfl, hy, hn, h0, q⟩ := h
  rw [st_m_Reader_number]
  unfold t_m_Reader_number
  walk_at "st"
  refine rd_meth h0 nmReader_word ?_
  walk_at "st"
  refine ⟨r, ws, i, _, _, L, rfl, hy, .inl rfl, h0, fun H1 i1 s1 => ?_⟩
  walk_at "st"
  have := nW_len (i := (n : Nat)) (by omega) (by omega)
  refine ⟨_, _, rfl, by omega, s1, fun H2 i2 s2 => ?_⟩
  rw [numOf_nW hn]
  show (gName 1) (V.int (n : Nat)) _ H2 _
  walk_at "st"
  exact q H2 (i1.trans i2) s2
def sp_Reader_numbers (K : PySem.W.Frag) (w : World) : Sp := fun vs H Q _ => ∃ (r : Addr) (ws : List Str) (i : Nat) (ns : List Nat) (rest : List Str) (L : List As), vs = [.ref r] ∧ ws.drop i = nW (ns.length : Nat) :: (ns.map fun n => nW (n : Nat)) ++ rest ∧ (∀ n ∈ ns, n < 10007) ∧ ns.length ≤ 900 ∧ Sep H (rdA K r ws i :: L) ∧
  ∀ H' p, Imm H H' → SqT K H' p (ns.map fun n => V.int (n : Nat)) → Sep H' (rdA K r ws (i + 1 + ns.length) :: L) → Q (.ref p) H'
theorem nums_at {ws : List Str} {i : Nat} : ∀ {ns : List Nat} {rest : List Str} {k : Nat}, ws.drop i = (ns.map fun n => nW (n : Nat)) ++ rest → k < ns.length → ∃ n, ns[k]? = some n ∧ ws[i + k]? = some (nW (n : Nat)) := fun {ns rest k} h hk => by
  have e : ns[k]? = some ns[k] := List.getElem?_eq_getElem hk
  refine ⟨ns[k], e, ?_⟩
  have e2 := congrArg (·[k]?) h
  simp only [List.getElem?_drop] at e2
  rw [e2, List.getElem?_append_left (by rw [List.length_map]; exact hk), List.getElem?_map, e]; rfl
abbrev n_m_Reader_numbers : List Str := ["self", "turn"]
def t_m_Reader_numbers (K : PySem.W.Frag) (w : World)  : TS :=
 (tRet (tCB (rTupleOf K) (tCons (tLc (iRng1 (tCons (tMeth (He.ga K "Reader") "number" (sp_Reader_number K w) [] E0 (tVar 0) tNil) tNil)) (gName 1) tYes (tMeth (He.ga K "Reader") "number" (sp_Reader_number K w) [] E0 (tVar 0) tNil) [1]) tNil)))
theorem st_m_Reader_numbers {x0 : V} : start n_m_Reader_numbers [x0] = [some x0, none] := rfl
theorem pu_m_Reader_numbers {K : PySem.W.Frag} {w : World} (vs : List V) (H : Hp) (Q : VK) (E : XK) (h : sp_Reader_numbers K w vs H Q E) : t_m_Reader_numbers K w { nx := fun _ H' => Q .non H', rt := Q } (start n_m_Reader_numbers vs) H := by
  obtain ⟨r, ws, i, ns, rest, L, rfl, hd, hn, hl, h0, q⟩ := h
  obtain ⟨hy, hd2⟩ := drop_head (t := (ns.map fun n => nW (n : Nat)) ++ rest) hd
  rw [st_m_Reader_numbers]
  unfold t_m_Reader_numbers
  walk_at "st"
  refine rd_meth h0 nmReader_number ?_
  walk_at "st"
  refine ⟨r, ws, i, ns.length, L, rfl, hy, by omega, h0, fun H1 i1 s1 => ?_⟩
  refine w_rng1I (by omega) ?_
  rw [Int.toNat_natCast]
  refine k_lcR s1 (fun D k H2 => Imm H1 H2 ∧ Sep H2 (cellA D (.lst ((ns.take k).map fun n => V.int (n : Nat))) :: rdA K r ws (i + 1 + k) :: L)) (fun D H' i h => ⟨i, h⟩) (fun D k H2 hk hP => ?_) fun D H2 hP => ?_
  · obtain ⟨i2, s2⟩ := hP
    obtain ⟨n, en, ew⟩ := nums_at hd2 hk
    refine k_lcB ?_
    walk_at "st"
    refine w_yes rfl ?_
    walk_at "st"
    refine rd_meth s2.swap nmReader_number ?_
    walk_at "st"
    refine ⟨r, ws, _, n, _, rfl, ew, hn n (List.mem_of_getElem? en), s2.swap, fun H3 i3 s3 => ?_⟩
    have s4 := s3.swap
    refine k_acc s4.cell (by rw [List.length_map, List.length_take]; omega) ⟨i2.trans (i3.trans (s4.imm rfl)), ?_⟩
    rw [take_snoc en, List.map_append]
    exact s4.set rfl
  · obtain ⟨i2, s2⟩ := hP
    rw [List.take_length] at s2
    walk_at "st"
    refine w_tupL s2 (SqL.of s2.cell) fun p H3 i3 s3 f3 => ?_
    exact q H3 p (i1.trans (i2.trans i3)) f3 s3.tail
end SD
set_option Elab.async false
set_option linter.all false
set_option maxRecDepth 100000
set_option maxHeartbeats 4000000
namespace SD
--@L law_k13_texts
open PySem PySem.Spec PyProof.Rows L2
local macro_rules | `(tactic| walk_at "s1") => `(tactic| first
  | with_reducible refine w_nT ?_
  | with_reducible refine w_nF ?_
  | with_reducible refine w_frzS ?_
  | with_reducible refine w_seq ?_
  | with_reducible refine w_next ?_
  | with_reducible refine w_asg ?_
  | with_reducible refine w_drop ?_
  | with_reducible refine w_ret ?_
  | with_reducible refine w_retN ?_
  | with_reducible refine w_ifs ?_
  | with_reducible refine w_par ?_
  | with_reducible refine w_c ?_
  | with_reducible refine w_nil ?_
  | with_reducible refine w_cons ?_
  | with_reducible refine w_op ?_
  | with_reducible refine w_un ?_
  | with_reducible refine w_rI0 ?_
  | with_reducible refine w_rU ?_
  | with_reducible refine w_test ?_
  | with_reducible refine w_b ?_
  | with_reducible refine w_bl ?_
  | with_reducible refine w_and ?_
  | with_reducible refine w_or ?_
  | with_reducible refine w_not ?_
  | with_reducible refine w_andV ?_
  | with_reducible refine w_orV ?_
  | with_reducible refine w_notV ?_
  | with_reducible refine w_if ?_
  | with_reducible refine w_chain ?_
  | with_reducible refine w_eqI ?_
  | with_reducible refine w_neI ?_
  | with_reducible refine w_eqS ?_
  | with_reducible refine w_neS ?_
  | with_reducible refine w_pcons ?_
  | with_reducible refine w_pnil ?_
  | with_reducible refine w_dget ?_
  | with_reducible refine w_dget2 ?_
  | with_reducible refine w_dput ?_
  | with_reducible refine w_neB ?_
  | with_reducible refine w_eqB ?_
  | with_reducible refine w_isNb ?_
  | with_reducible refine w_isNs ?_
  | with_reducible refine w_min ?_
  | with_reducible refine w_max ?_
  | with_reducible refine w_isNn ?_
  | with_reducible refine w_isNi ?_
  | with_reducible refine w_isNr ?_
  | with_reducible refine w_notNn ?_
  | with_reducible refine w_notNi ?_
  | with_reducible refine w_notNr ?_
  | with_reducible refine w_call ?_
  | with_reducible refine w_cb ?_
  | with_reducible refine w_meth ?_
  | with_reducible refine w_make ?_
  | with_reducible refine w_tup ?_
  | with_reducible refine w_lst ?_
  | with_reducible refine w_int1b ?_
  | with_reducible refine w_int1 ?_
  | with_reducible refine w_gNil ?_
  | with_reducible refine w_gCons ?_
  | with_reducible refine w_gSub ?_
  | with_reducible refine w_bm ?_
  | with_reducible refine w_sl ?_
  | with_reducible refine w_part ?_
  | with_reducible refine w_partI ?_
  | with_reducible refine w_noPart ?_
  | with_reducible refine w_for ?_
  | with_reducible refine w_lc ?_
  | with_reducible refine w_rng1 ?_
  | with_reducible refine w_iList ?_
  | with_reducible refine w_iTup ?_
  | with_reducible refine w_break ?_
  | with_reducible refine w_cont ?_
  | ((with_reducible refine' w_var ?h ?_); (case h => exact rfl))
  | ((with_reducible refine' w_gName ?h ?_); (case h => (simp only [wipe, List.set]; rfl)))
  | ((with_reducible refine' w_par2 ?h ?_); (case h => (simp only [wipe, List.set]; rfl)))
  | ((with_reducible refine' w_mod ?h ?_); (case h => omega))
  | ((with_reducible refine' w_mul ?h ?_); (case h => omega))
  | ((with_reducible refine' w_rng1I ?h ?_); (case h => omega))
  | with_reducible refine iteT ?_
  | with_reducible refine iteF ?_
  | ((with_reducible refine' iteDT ?h ?_); (case h => omega))
  | ((with_reducible refine' iteDF ?h ?_); (case h => omega))
  | ((with_reducible refine' iteNT ?h ?_); (case h => omega))
  | ((with_reducible refine' iteNF ?h ?_); (case h => omega))
  | ((with_reducible refine' iteDT ?h ?_); (case h => decide +kernel))
  | ((with_reducible refine' iteDF ?h ?_); (case h => decide +kernel))
  | ((with_reducible refine' iteNT ?h ?_); (case h => decide +kernel))
  | ((with_reducible refine' iteNF ?h ?_); (case h => decide +kernel))
  | fail "stop")
local macro_rules | `(tactic| walk_at "st") => `(tactic| (walk_at "s1"; repeat' walk_at "s1"))
theorem use_numN {K : PySem.W.Frag} {w : World} {H : Hp} {L : List As} {Q : VK} {E : XK} {y : Str} (h : Sep H L) (hl : y.length ≤ 1000000) (e : numOf y = none) (q : ∀ H', Imm H H' → Sep H' L → Q .non H') : sp_number_of K w [.str y] H Q E :=
  ⟨y, L, rfl, hl, h, fun H' i s => by rw [e]; exact q H' i s⟩
theorem use_numS {K : PySem.W.Frag} {w : World} {H : Hp} {L : List As} {Q : VK} {E : XK} {y : Str} {n : Nat} (h : Sep H L) (hl : y.length ≤ 1000000) (e : numOf y = some n) (q : ∀ H', Imm H H' → Sep H' L → Q (.int (n : Nat)) H') : sp_number_of K w [.str y] H Q E :=
  ⟨y, L, rfl, hl, h, fun H' i s => by rw [e]; exact q H' i s⟩
theorem use_word {K : PySem.W.Frag} {w : World} {H : Hp} {L : List As} {Q : VK} {E : XK} {r : Addr} {ws : List Str} {i : Nat} {y : Str} (h : Sep H (rdA K r ws i :: L)) (e : ws[i]? = some y) (q : ∀ H', Imm H H' → Sep H' (rdA K r ws (i + 1) :: L) → Q (.str y) H') : sp_Reader_word K w [.ref r, .non] H Q E :=
  ⟨r, ws, i, y, _, L, rfl, e, .inl rfl, h, q⟩
section
variable {K : PySem.W.Frag} {H : Hp} {Q : VK}
theorem w_slS {z : Str} {lo hi : Option Int} (n : z.length ≤ 1000000) (h : Q (.str (cutS z lo hi)) H) : rSlS (.str z) lo hi H Q := ⟨z, rfl, Nat.le_trans n (by decide), h⟩
end
theorem pre_S (c n : Nat) : (⟨#[c]⟩ : Str) ++ nW (n : Nat) = SX.S (c :: TL.numL n) := by
  rw [nW_S]; exact SX.S_cat [c] (TL.numL n)
theorem pre_to (c n : Nat) : cutS ((⟨#[c]⟩ : Str) ++ nW (n : Nat)) none (some 1) = ⟨#[c]⟩ := by
  rw [pre_S, C8.cutS_slice, SX.slice_to (by decide)]; rfl
theorem pre_from (c n : Nat) : cutS ((⟨#[c]⟩ : Str) ++ nW (n : Nat)) (some 1) none = nW (n : Nat) := by
  rw [pre_S, C8.cutS_slice, SX.slice_from (by decide), nW_S]; rfl
theorem pre_len {c n : Nat} (h : n < 10007) : ((⟨#[c]⟩ : Str) ++ nW (n : Nat)).length ≤ 6 := by
  rw [pre_S, SX.S_len]
  have := numL_small h
  show _ + 1 ≤ 6; omega
def sp_Reader_part (n : Nat) (K : PySem.W.Frag) (w : World) : Sp := fun vs H Q _ => ∃ (r : Addr) (ws : List Str) (i : Nat) (p : Pt) (rest : List Str) (na nb : Nat) (L : List As), vs = [.ref r] ∧ p.dp ≤ n ∧ p.wf na nb = true ∧ na ≤ 10007 ∧ nb ≤ 10007 ∧ ws.drop i = ptW p ++ rest ∧ Sep H (rdA K r ws i :: L) ∧
  ∀ H' v, Imm H H' → PtAt K H' p v → Sep H' (rdA K r ws (i + p.sz) :: L) → Q v H'
theorem op_none (o : Op2) : numOf o.str = none := by cases o <;> decide +kernel
theorem op_len (o : Op2) : o.str.length ≤ 1000000 := by cases o <;> decide +kernel
theorem op_cut (o : Op2) : inV (.str (cutS o.str none (some 1))) [.str "n", .str "c"] = false := by cases o <;> decide +kernel
theorem op_two (o : Op2) : inV (.str o.str) twoL = true := by cases o <;> decide +kernel
abbrev n_m_Reader_part : List Str := ["self", "word", "one"]
def t_m_Reader_part (K : PySem.W.Frag) (w : World) (n : Nat) : TS :=
 (tSeq (tAsg (tMeth (He.ga K "Reader") "word" (sp_Reader_word K w) [] E0 (tVar 0) (tCons (tC .non) tNil)) (gName 1))
 (tSeq (tIfS (tTest (tOp rNotN (tCall (sp_number_of K w) [] E0 (tCons (tVar 1) tNil)) (tC .non))) (tRet (tTup (tCons (tC (.str "num")) (tCons (tCall (sp_number_of K w) [] E0 (tCons (tVar 1) tNil)) tNil)))) tNext)
 (tSeq (tIfS (tAnd (tTest (tOp (rIn K false) (tSl rSlS (tVar 1) tNoPart (tPart (tC (.int 1)))) (tTup (tCons (tC (.str "n")) (tCons (tC (.str "c")) tNil))))) (tTest (tOp rNotN (tCall (sp_number_of K w) [] E0 (tCons (tSl rSlS (tVar 1) (tPart (tC (.int 1))) tNoPart) tNil)) (tC .non)))) (tRet (tTup (tCons (tIf (tTest (tOp rEq (tOp rIxS (tVar 1) (tC (.int 0))) (tC (.str "n")))) (tC (.str "name")) (tC (.str "cell"))) (tCons (tCall (sp_number_of K w) [] E0 (tCons (tSl rSlS (tVar 1) (tPart (tC (.int 1))) tNoPart) tNil)) tNil)))) tNext)
 (tSeq (tIfS (tTest (tOp (rIn K true) (tVar 1) (tC (.ref (He.ga K "TWO"))))) tNever tNext)
 (tSeq (tAsg (tMeth (He.ga K "Reader") "part" (sp_Reader_part n K w) [] E0 (tVar 0) tNil) (gName 2))
 (tRet (tTup (tCons (tVar 1) (tCons (tVar 2) (tCons (tMeth (He.ga K "Reader") "part" (sp_Reader_part n K w) [] E0 (tVar 0) tNil) tNil))))))))))
theorem st_m_Reader_part {x0 : V} : start n_m_Reader_part [x0] = [some x0, none, none] := rfl
theorem rp_leaf {K : PySem.W.Frag} {w : World} (T : Tb K w) {n : Nat} {H : Hp} {Q : VK} {L : List As} {r : Addr} {ws : List Str} {i c k : Nat} {nm : Str} (hk : k < 10007) (hc : figB c = false) (hin : inV (.str ⟨#[c]⟩) [.str "n", .str "c"] = true) (hnm : (if decide ((⟨#[c]⟩ : Str) = "n") then ("name" : Str) else "cell") = nm)
    (hy : ws[i]? = some ((⟨#[c]⟩ : Str) ++ nW (k : Nat))) (h0 : Sep H (rdA K r ws i :: L)) (q : ∀ H' a, Imm H H' → SqT K H' a [.str nm, .int (k : Nat)] → Sep H' (rdA K r ws (i + 1) :: L) → Q (.ref a) H') :
    t_m_Reader_part K w n { nx := fun _ H' => Q .non H', rt := Q } (start n_m_Reader_part [.ref r]) H := by
  have hl := pre_len (c := c) hk
  have hno : numOf ((⟨#[c]⟩ : Str) ++ nW (k : Nat)) = none := by rw [pre_S]; exact numOf_none (c := c) (List.mem_cons_self ..) hc
  have e1 := pre_to c k
  have e2 := pre_from c k
  have e3 : ((⟨#[c]⟩ : Str) ++ nW (k : Nat)).cps.toList = c :: TL.numL k := by rw [pre_S]
  generalize (⟨#[c]⟩ : Str) ++ nW (k : Nat) = y at hy hl hno e1 e2 e3
  have hn := nW_len (i := (k : Nat)) (by omega) (by omega)
  rw [st_m_Reader_part]
  unfold t_m_Reader_part
  walk_at "st"
  refine rd_meth h0 nmReader_word ?_
  walk_at "st"
  refine use_word h0 hy fun H1 i1 s1 => ?_
  walk_at "st"
  refine use_numN s1 (by omega) hno fun H2 i2 s2 => ?_
  walk_at "st"
  refine w_slS (by omega) ?_
  rw [e1]
  walk_at "st"
  refine k_tup (K := K) s2 fun p H3 i3 s3 f3 => ?_
  refine w_in (.inr f3) rfl rfl ?_
  rw [hin]
  walk_at "st"
  refine w_slS (by omega) ?_
  rw [e2]
  walk_at "st"
  refine use_numS (y := nW (k : Nat)) s3 (by omega) (numOf_nW hk) fun H4 i4 s4 => ?_
  walk_at "st"
  refine w_ixS (c := c) (by omega) (by rw [e3]; exact atI_nat (j := 0) rfl) ?_
  walk_at "st"
  cases hz : decide ((⟨#[c]⟩ : Str) = "n") with
  | true =>
    rw [hz] at hnm
    subst hnm
    walk_at "st"
    refine w_slS (by omega) ?_
    rw [e2]
    walk_at "st"
    refine use_numS (y := nW (k : Nat)) s4 (by omega) (numOf_nW hk) fun H5 i5 s5 => ?_
    walk_at "st"
    refine k_tup (K := K) s5 fun a H6 i6 s6 f6 => ?_
    exact q H6 a (i1.trans (i2.trans (i3.trans (i4.trans (i5.trans i6))))) f6 s6
  | false =>
    rw [hz] at hnm
    subst hnm
    walk_at "st"
    refine w_slS (by omega) ?_
    rw [e2]
    walk_at "st"
    refine use_numS (y := nW (k : Nat)) s4 (by omega) (numOf_nW hk) fun H5 i5 s5 => ?_
    walk_at "st"
    refine k_tup (K := K) s5 fun a H6 i6 s6 f6 => ?_
    exact q H6 a (i1.trans (i2.trans (i3.trans (i4.trans (i5.trans i6))))) f6 s6
theorem pu_m_Reader_part {K : PySem.W.Frag} {w : World} (T : Tb K w) (n : Nat) (vs : List V) (H : Hp) (Q : VK) (E : XK) (h : sp_Reader_part (n + 1) K w vs H Q E) : t_m_Reader_part K w n { nx := fun _ H' => Q .non H', rt := Q } (start n_m_Reader_part vs) H := by
  obtain ⟨r, ws, i, p, rest, na, nb, L, rfl, hd, hw, hna, hnb, hdr, h0, q⟩ := h
  cases p with
  | num z =>
    have hw : (decide (0 ≤ z) && decide (z < REST)) = true := hw
    rw [Bool.and_eq_true, decide_eq_true_eq, decide_eq_true_eq] at hw
    obtain ⟨k, rfl⟩ := Int.eq_ofNat_of_zero_le hw.1
    have hk : k < 10007 := by have h2 : ((k : Nat) : Int) < 10007 := hw.2; omega
    obtain ⟨hy, _⟩ := drop_head (y := nW (k : Nat)) (t := rest) hdr
    have hn := nW_len (i := (k : Nat)) (by omega) (by omega)
    rw [st_m_Reader_part]
    unfold t_m_Reader_part
    walk_at "st"
    refine rd_meth h0 nmReader_word ?_
    walk_at "st"
    refine use_word h0 hy fun H1 i1 s1 => ?_
    walk_at "st"
    refine use_numS (y := nW (k : Nat)) s1 (by omega) (numOf_nW hk) fun H2 i2 s2 => ?_
    walk_at "st"
    refine use_numS (y := nW (k : Nat)) s2 (by omega) (numOf_nW hk) fun H3 i3 s3 => ?_
    walk_at "st"
    refine k_tup (K := K) s3 fun a H4 i4 s4 f4 => ?_
    exact q H4 _ (i1.trans (i2.trans (i3.trans i4))) ⟨a, rfl, f4⟩ s4
  | name k =>
    have hw : decide (k < na) = true := hw
    rw [decide_eq_true_eq] at hw
    obtain ⟨hy, _⟩ := drop_head (y := ("n" : Str) ++ nW (k : Nat)) (t := rest) hdr
    exact rp_leaf T (c := 110) (nm := "name") (by omega) (by decide +kernel) (by decide +kernel) (by decide +kernel) hy h0 fun H' a im f s => q H' _ im ⟨a, rfl, f⟩ s
  | cell k =>
    have hw : decide (k < nb) = true := hw
    rw [decide_eq_true_eq] at hw
    obtain ⟨hy, _⟩ := drop_head (y := ("c" : Str) ++ nW (k : Nat)) (t := rest) hdr
    exact rp_leaf T (c := 99) (nm := "cell") (by omega) (by decide +kernel) (by decide +kernel) (by decide +kernel) hy h0 fun H' a im f s => q H' _ im ⟨a, rfl, f⟩ s
  | two o a b =>
    have hw : (a.wf na nb && b.wf na nb) = true := hw
    rw [Bool.and_eq_true] at hw
    have hd : 1 + max a.dp b.dp ≤ n + 1 := hd
    have hdr : ws.drop i = o.str :: (ptW a ++ (ptW b ++ rest)) := by rw [hdr]; show o.str :: (ptW a ++ ptW b) ++ rest = _; rw [List.cons_append, List.append_assoc]
    obtain ⟨hy, hd1⟩ := drop_head hdr
    have hd2 := drop_app hd1
    rw [ptW_len] at hd2
    rw [st_m_Reader_part]
    unfold t_m_Reader_part
    walk_at "st"
    refine rd_meth h0 nmReader_word ?_
    walk_at "st"
    refine use_word h0 hy fun H1 i1 s1 => ?_
    walk_at "st"
    refine use_numN s1 (op_len o) (op_none o) fun H2 i2 s2 => ?_
    walk_at "st"
    refine w_slS (op_len o) ?_
    walk_at "st"
    refine k_tup (K := K) s2 fun p H3 i3 s3 f3 => ?_
    refine w_in (.inr f3) rfl rfl ?_
    rw [op_cut]
    walk_at "st"
    refine w_notIn (.inr (T.two H3)) rfl rfl ?_
    rw [op_two]
    walk_at "st"
    refine rd_meth s3 nmReader_part ?_
    walk_at "st"
    refine ⟨r, ws, i + 1, a, ptW b ++ rest, na, nb, L, rfl, by omega, hw.1, hna, hnb, hd1, s3, fun H4 va i4 ha s4 => ?_⟩
    walk_at "st"
    refine rd_meth s4 nmReader_part ?_
    walk_at "st"
    refine ⟨r, ws, _, b, rest, na, nb, L, rfl, by omega, hw.2, hna, hnb, hd2, s4, fun H5 vb i5 hb s5 => ?_⟩
    walk_at "st"
    refine k_tup (K := K) s5 fun t H6 i6 s6 f6 => ?_
    refine q H6 _ (i1.trans (i2.trans (i3.trans (i4.trans (i5.trans i6))))) ⟨t, va, vb, rfl, f6, ha.mono (i5.trans i6), hb.mono i6⟩ ?_
    rw [show i + (Pt.two o a b).sz = i + 1 + a.sz + b.sz from by show i + (1 + a.sz + b.sz) = _; omega]
    exact s6
end SD
set_option Elab.async false
set_option linter.all false
set_option maxRecDepth 100000
set_option maxHeartbeats 4000000
namespace SD
--@L law_k13_texts
open PySem PySem.Spec PyProof.Rows L2
local macro_rules | `(tactic| walk_at "s1") => `(tactic| first
  | with_reducible refine w_nT ?_
  | with_reducible refine w_nF ?_
  | with_reducible refine w_frzS ?_
  | with_reducible refine w_seq ?_
  | with_reducible refine w_next ?_
  | with_reducible refine w_asg ?_
  | with_reducible refine w_drop ?_
  | with_reducible refine w_ret ?_
  | with_reducible refine w_retN ?_
  | with_reducible refine w_ifs ?_
  | with_reducible refine w_par ?_
  | with_reducible refine w_c ?_
  | with_reducible refine w_nil ?_
  | with_reducible refine w_cons ?_
  | with_reducible refine w_op ?_
  | with_reducible refine w_un ?_
  | with_reducible refine w_rI0 ?_
  | with_reducible refine w_rU ?_
  | with_reducible refine w_test ?_
  | with_reducible refine w_b ?_
  | with_reducible refine w_bl ?_
  | with_reducible refine w_and ?_
  | with_reducible refine w_or ?_
  | with_reducible refine w_not ?_
  | with_reducible refine w_andV ?_
  | with_reducible refine w_orV ?_
  | with_reducible refine w_notV ?_
  | with_reducible refine w_if ?_
  | with_reducible refine w_chain ?_
  | with_reducible refine w_eqI ?_
  | with_reducible refine w_neI ?_
  | with_reducible refine w_eqS ?_
  | with_reducible refine w_neS ?_
  | with_reducible refine w_pcons ?_
  | with_reducible refine w_pnil ?_
  | with_reducible refine w_dget ?_
  | with_reducible refine w_dget2 ?_
  | with_reducible refine w_dput ?_
  | with_reducible refine w_neB ?_
  | with_reducible refine w_eqB ?_
  | with_reducible refine w_isNb ?_
  | with_reducible refine w_isNs ?_
  | with_reducible refine w_min ?_
  | with_reducible refine w_max ?_
  | with_reducible refine w_isNn ?_
  | with_reducible refine w_isNi ?_
  | with_reducible refine w_isNr ?_
  | with_reducible refine w_notNn ?_
  | with_reducible refine w_notNi ?_
  | with_reducible refine w_notNr ?_
  | with_reducible refine w_call ?_
  | with_reducible refine w_cb ?_
  | with_reducible refine w_meth ?_
  | with_reducible refine w_make ?_
  | with_reducible refine w_tup ?_
  | with_reducible refine w_lst ?_
  | with_reducible refine w_int1b ?_
  | with_reducible refine w_int1 ?_
  | with_reducible refine w_gNil ?_
  | with_reducible refine w_gCons ?_
  | with_reducible refine w_gSub ?_
  | with_reducible refine w_bm ?_
  | with_reducible refine w_sl ?_
  | with_reducible refine w_part ?_
  | with_reducible refine w_partI ?_
  | with_reducible refine w_noPart ?_
  | with_reducible refine w_for ?_
  | with_reducible refine w_lc ?_
  | with_reducible refine w_rng1 ?_
  | with_reducible refine w_iList ?_
  | with_reducible refine w_iTup ?_
  | with_reducible refine w_break ?_
  | with_reducible refine w_cont ?_
  | ((with_reducible refine' w_var ?h ?_); (case h => exact rfl))
  | ((with_reducible refine' w_gName ?h ?_); (case h => (simp only [wipe, List.set]; rfl)))
  | ((with_reducible refine' w_par2 ?h ?_); (case h => (simp only [wipe, List.set]; rfl)))
  | ((with_reducible refine' w_mod ?h ?_); (case h => omega))
  | ((with_reducible refine' w_mul ?h ?_); (case h => omega))
  | ((with_reducible refine' w_rng1I ?h ?_); (case h => omega))
  | with_reducible refine iteT ?_
  | with_reducible refine iteF ?_
  | ((with_reducible refine' iteDT ?h ?_); (case h => omega))
  | ((with_reducible refine' iteDF ?h ?_); (case h => omega))
  | ((with_reducible refine' iteNT ?h ?_); (case h => omega))
  | ((with_reducible refine' iteNF ?h ?_); (case h => omega))
  | ((with_reducible refine' iteDT ?h ?_); (case h => decide +kernel))
  | ((with_reducible refine' iteDF ?h ?_); (case h => decide +kernel))
  | ((with_reducible refine' iteNT ?h ?_); (case h => decide +kernel))
  | ((with_reducible refine' iteNF ?h ?_); (case h => decide +kernel))
  | fail "stop")
local macro_rules | `(tactic| walk_at "st") => `(tactic| (walk_at "s1"; repeat' walk_at "s1"))
/-! ### Reader.piece, Reader.body -/
theorem ptsW_app : ∀ (l m : List Pt), ptsW (l ++ m) = ptsW l ++ ptsW m
  | [], m => rfl
  | x :: r, m => by show ptW x ++ ptsW (r ++ m) = (ptW x ++ ptsW r) ++ ptsW m; rw [ptsW_app r m, List.append_assoc]
theorem ddsW_app : ∀ (l m : List Dd), ddsW (l ++ m) = ddsW l ++ ddsW m
  | [], m => rfl
  | x :: r, m => by show ddW x ++ ddsW (r ++ m) = (ddW x ++ ddsW r) ++ ddsW m; rw [ddsW_app r m, List.append_assoc]
theorem PcsAt.app {K : PySem.W.Frag} {H : Hp} : ∀ {p q : List Pc} {v u : List V}, PcsAt K H p v → PcsAt K H q u → PcsAt K H (p ++ q) (v ++ u)
  | [], q, v, u, h, h2 => by rw [show v = [] from h]; exact h2
  | p :: r, q, v, u, ⟨a, t, e, h, h1⟩, h2 => ⟨a, t ++ u, by rw [e]; rfl, h, PcsAt.app h1 h2⟩
theorem PcsAt.mono {K : PySem.W.Frag} {H H' : Hp} (i : Imm H H') : ∀ {p : List Pc} {v : List V}, PcsAt K H p v → PcsAt K H' p v
  | [], v, h => h
  | p :: r, v, ⟨a, t, e, h, h1⟩ => ⟨a, t, e, h.mono i, PcsAt.mono i h1⟩
def Pc.fuel (n : Nat) : Pc → Prop
  | .bs l => 2 * dpDs l + 1 < n
  | _ => True
def sp_Reader_piece (n : Nat) (K : PySem.W.Frag) (w : World) : Sp := fun vs H Q _ => ∃ (r : Addr) (ws : List Str) (i : Nat) (pc : Pc) (rest : List Str) (na nb : Nat) (prm : List Nat) (dp sz : Nat) (L : List As), vs = [.ref r, .str ⟨#[pc.code]⟩] ∧ 0 < n ∧ pc.fuel n ∧ pc.ok na nb prm dp sz ∧ dp ≤ 9 ∧ sz ≤ 100 ∧ na ≤ 10007 ∧ nb ≤ 10007 ∧ prm.length ≤ 10007 ∧ ws.drop i = pc.ws ++ rest ∧ Sep H (rdA K r ws i :: L) ∧
  ∀ H' v, Imm H H' → PcAt K H' pc v → Sep H' (rdA K r ws (i + pc.ws.length) :: L) → Q v H'
def sp_Reader_body (n : Nat) (K : PySem.W.Frag) (w : World) : Sp := fun vs H Q _ => ∃ (r : Addr) (ws : List Str) (i : Nat) (b : List Dd) (rest : List Str) (na nb : Nat) (prm : List Nat) (L : List As), vs = [.ref r] ∧ 2 * dpDs b < n ∧ dpDs b ≤ 8 ∧ wfDs na nb prm b = true ∧ szDs b ≤ 100 ∧ na ≤ 10007 ∧ nb ≤ 10007 ∧ prm.length ≤ 10007 ∧ ws.drop i = (ddsW b ++ endW) ++ rest ∧ Sep H (rdA K r ws i :: L) ∧
  ∀ H' a bs, Imm H H' → SqT K H' a bs → DdsAt K H' b bs → Sep H' (rdA K r ws (i + (ddsW b ++ endW).length) :: L) → Q (.ref a) H'
abbrev n_m_Reader_piece : List Str := ["self", "kind", "turn"]
def t_m_Reader_piece (K : PySem.W.Frag) (w : World) (n : Nat) : TS :=
 (tSeq (tIfS (tTest (tOp rEq (tVar 1) (tC (.str "x")))) (tRet (tMeth (He.ga K "Reader") "part" (sp_Reader_part 8 K w) [] E0 (tVar 0) tNil)) tNext)
 (tSeq (tIfS (tTest (tOp rEq (tVar 1) (tC (.str "b")))) (tRet (tMeth (He.ga K "Reader") "body" (sp_Reader_body n K w) [] E0 (tVar 0) tNil)) tNext)
 (tRet (tIf (tTest (tOp rEq (tVar 1) (tC (.str "p")))) (tCB (rTupleOf K) (tCons (tLc (iRng1 (tCons (tMeth (He.ga K "Reader") "number" (sp_Reader_number K w) [] E0 (tVar 0) tNil) tNil)) (gName 2) tYes (tMeth (He.ga K "Reader") "part" (sp_Reader_part 8 K w) [] E0 (tVar 0) tNil) [2]) tNil)) (tMeth (He.ga K "Reader") "number" (sp_Reader_number K w) [] E0 (tVar 0) tNil)))))
theorem st_m_Reader_piece {x0 x1 : V} : start n_m_Reader_piece [x0, x1] = [some x0, some x1, none] := rfl
theorem pu_m_Reader_piece {K : PySem.W.Frag} {w : World} (n : Nat) (vs : List V) (H : Hp) (Q : VK) (E : XK) (h : sp_Reader_piece (n + 1) K w vs H Q E) : t_m_Reader_piece K w n { nx := fun _ H' => Q .non H', rt := Q } (start n_m_Reader_piece vs) H := by
  obtain ⟨r, ws, i, pc, rest, na, nb, prm, dp, sz, L, rfl, hn, hf, hok, hdp, hsz, hna, hnb, hprm, hdr, h0, q⟩ := h
  cases pc with
  | nu cc kk =>
    obtain ⟨n0, n1, n2, n3⟩ := hok
    have e1 : decide ((⟨#[cc]⟩ : Str) = "x") = false := decide_eq_false fun e => n1 (by have e : (⟨#[cc]⟩ : Str) = ⟨#[120]⟩ := e; injection e with e; injection e with e; injection e)
    have e2 : decide ((⟨#[cc]⟩ : Str) = "b") = false := decide_eq_false fun e => n2 (by have e : (⟨#[cc]⟩ : Str) = ⟨#[98]⟩ := e; injection e with e; injection e with e; injection e)
    have e3 : decide ((⟨#[cc]⟩ : Str) = "p") = false := decide_eq_false fun e => n3 (by have e : (⟨#[cc]⟩ : Str) = ⟨#[112]⟩ := e; injection e with e; injection e with e; injection e)
    obtain ⟨hy, _⟩ := drop_head (y := nW (kk : Nat)) (t := rest) hdr
    rw [st_m_Reader_piece]
    unfold t_m_Reader_piece
    show (tSeq (tIfS _ _ _) _) _ [some (.ref r), some (.str ⟨#[cc]⟩), none] H
    walk_at "st"
    rw [e1]
    walk_at "st"
    rw [e2]
    walk_at "st"
    rw [e3]
    walk_at "st"
    refine rd_meth h0 nmReader_number ?_
    walk_at "st"
    exact ⟨r, ws, i, kk, L, rfl, hy, n0, h0, fun H1 i1 s1 => q H1 _ i1 rfl s1⟩
  | pt p =>
    obtain ⟨n1, n2, n3⟩ := hok
    rw [st_m_Reader_piece]
    unfold t_m_Reader_piece
    show (tSeq (tIfS _ _ _) _) _ [some (.ref r), some (.str ⟨#[120]⟩), none] H
    walk_at "st"
    refine rd_meth h0 nmReader_part ?_
    walk_at "st"
    refine ⟨r, ws, i, p, rest, na, nb, L, rfl, by omega, n1, hna, hnb, hdr, h0, fun H1 v i1 f1 s1 => q H1 v i1 f1 ?_⟩
    show Sep H1 (rdA K r ws (i + (ptW p).length) :: L)
    rw [ptW_len]; exact s1
  | bs y =>
    obtain ⟨n1, n2, n3⟩ := hok
    have hf : 2 * dpDs y + 1 < n + 1 := hf
    rw [st_m_Reader_piece]
    unfold t_m_Reader_piece
    show (tSeq (tIfS _ _ _) _) _ [some (.ref r), some (.str ⟨#[98]⟩), none] H
    walk_at "st"
    refine rd_meth h0 nmReader_body ?_
    walk_at "st"
    exact ⟨r, ws, i, y, rest, na, nb, prm, L, rfl, by omega, by omega, n1, by omega, hna, hnb, hprm, hdr, h0, fun H1 a bs i1 f1 g1 s1 => q H1 _ i1 ⟨a, bs, rfl, f1, g1⟩ s1⟩
  | ps y =>
    obtain ⟨n1, n2, n3⟩ := hok
    have hyl := szPs_len y
    obtain ⟨hy, hd1⟩ := drop_head (y := nW (y.length : Nat)) (t := ptsW y ++ rest) hdr
    rw [st_m_Reader_piece]
    unfold t_m_Reader_piece
    show (tSeq (tIfS _ _ _) _) _ [some (.ref r), some (.str ⟨#[112]⟩), none] H
    walk_at "st"
    refine rd_meth h0 nmReader_number ?_
    walk_at "st"
    refine ⟨r, ws, i, y.length, L, rfl, hy, by omega, h0, fun H1 i1 s1 => ?_⟩
    refine w_rng1I (by omega) ?_
    rw [Int.toNat_natCast]
    refine k_lcR s1 (fun D k H2 => Imm H1 H2 ∧ ∃ vs, PtsAt K H2 (y.take k) vs ∧ vs.length = k ∧ Sep H2 (cellA D (.lst vs) :: rdA K r ws (i + 1 + szPs (y.take k)) :: L)) (fun D H' i h => ⟨i, [], rfl, rfl, h⟩) (fun D k H2 hk hP => ?_) fun D H2 hP => ?_
    · obtain ⟨i2, vs, f2, hvl, s2⟩ := hP
      have ep : y[k]? = some y[k] := List.getElem?_eq_getElem hk
      generalize y[k] = pp at ep
      have hdk : ws.drop (i + 1 + szPs (y.take k)) = ptW pp ++ (ptsW (y.drop (k + 1)) ++ rest) := by
        have e1 : ptsW y ++ rest = ptsW (y.take k) ++ (ptW pp ++ (ptsW (y.drop (k + 1)) ++ rest)) := by
          have e2 : y = y.take k ++ (pp :: y.drop (k + 1)) := by
            have e3 : y.drop k = pp :: y.drop (k + 1) := by
              rw [List.drop_eq_getElem_cons hk]
              rw [List.getElem?_eq_getElem hk] at ep
              rw [Option.some.inj ep]
            rw [← e3, List.take_append_drop]
          conv => lhs; rw [e2]
          rw [ptsW_app, List.append_assoc]
          show ptsW (y.take k) ++ ((ptW pp ++ ptsW (y.drop (k + 1))) ++ rest) = _
          rw [List.append_assoc]
        rw [e1] at hd1
        have := drop_app hd1
        rw [ptsW_len] at this
        exact this
      refine k_lcB ?_
      walk_at "st"
      refine w_yes rfl ?_
      walk_at "st"
      refine rd_meth s2.swap nmReader_part ?_
      walk_at "st"
      have hdpp := dpPs_get ep
      refine ⟨r, ws, _, pp, _, na, nb, _, rfl, by omega, wfPs_get n1 ep, hna, hnb, hdk, s2.swap, fun H3 v i3 f3 s3 => ?_⟩
      have s4 := s3.swap
      refine k_acc s4.cell (by omega) ⟨i2.trans (i3.trans (s4.imm rfl)), vs ++ [v], ?_, by rw [List.length_append, hvl]; rfl, ?_⟩
      · rw [take_snoc ep]
        exact ((f2.mono i3).mono (s4.imm rfl)).app ⟨v, [], rfl, f3.mono (s4.imm rfl), rfl⟩
      · rw [szPs_take ep, ← Nat.add_assoc]
        exact s4.set rfl
    · obtain ⟨i2, vs, f2, hvl, s2⟩ := hP
      rw [List.take_length] at f2 s2
      walk_at "st"
      refine w_tupL s2 (SqL.of s2.cell) fun p H3 i3 s3 f3 => ?_
      refine q H3 _ (i1.trans (i2.trans i3)) ⟨p, vs, rfl, f3, f2.mono i3⟩ ?_
      rw [show i + (Pc.ps y).ws.length = i + 1 + szPs y from by show i + ((ptsW y).length + 1) = _; rw [ptsW_len]; omega]
      exact s3.tail
abbrev dKeys : List Str := ["set", "put", "say", "if", "again", "call", "return"]
abbrev dKeysE : List Str := ["set", "put", "say", "if", "again", "call", "return", "end"]
structure Tk (K : PySem.W.Frag) (w : World) : Prop where
  keys : KKeys K w (He.ga K "DEEDS") dKeys
theorem dd_key (d : Dd) : d.word ∈ (["set", "put", "say", "if", "again", "call", "return"] : List Str) := by cases d <;> simp [Dd.word]
theorem dd_no_end (d : Dd) : d.word ≠ "end" := fun z => by
  have h := dd_key d
  rw [z] at h
  have e : ("end" : Str) ∉ (["set", "put", "say", "if", "again", "call", "return"] : List Str) := by decide +kernel
  exact e h
/-- the next word of what is left of a body, and what follows it -/
def nextW : List Dd → Str
  | [] => "end"
  | d :: _ => d.word
def tailW (rest : List Str) : List Dd → List Str
  | [] => rest
  | d :: r => pcsW d.pcs ++ ((ddsW r ++ endW) ++ rest)
theorem nextW_eq (rest : List Str) (b : List Dd) : (ddsW b ++ endW) ++ rest = nextW b :: tailW rest b := by
  cases b with
  | nil => rfl
  | cons d r =>
    show ((ddW d ++ ddsW r) ++ endW) ++ rest = d.word :: (pcsW d.pcs ++ ((ddsW r ++ endW) ++ rest))
    rw [d.words]
    simp only [List.cons_append, List.append_assoc]
theorem nextW_in (b : List Dd) : nextW b ∈ dKeysE := by
  cases b with
  | nil => exact List.mem_append_right dKeys (List.mem_singleton.mpr rfl)
  | cons d r => exact List.mem_append_left (as := dKeys) [("end" : Str)] (dd_key d)
theorem ddAt_of {K : PySem.W.Frag} {H : Hp} {d : Dd} {a : Addr} {its : List V} (h : SqT K H a (.str d.word :: its)) (p : PcsAt K H d.pcs its) : DdAt K H d (.ref a) := by
  cases d with
  | set k x => obtain ⟨_, _, rfl, rfl, vx, _, rfl, h1, rfl⟩ := p; exact ⟨a, vx, rfl, h, h1⟩
  | put k x => obtain ⟨_, _, rfl, rfl, vx, _, rfl, h1, rfl⟩ := p; exact ⟨a, vx, rfl, h, h1⟩
  | say x => obtain ⟨vx, _, rfl, h1, rfl⟩ := p; exact ⟨a, vx, rfl, h, h1⟩
  | iff x b c => obtain ⟨vx, _, rfl, h1, _, _, rfl, ⟨vb, bs, rfl, h2, h3⟩, _, _, rfl, ⟨vc, cs, rfl, h4, h5⟩, rfl⟩ := p; exact ⟨a, vx, vb, vc, bs, cs, rfl, h, h1, h2, h3, h4, h5⟩
  | again x b => obtain ⟨vx, _, rfl, h1, _, _, rfl, ⟨vb, bs, rfl, h2, h3⟩, rfl⟩ := p; exact ⟨a, vx, vb, bs, rfl, h, h1, h2, h3⟩
  | call f xs k => obtain ⟨_, _, rfl, rfl, _, _, rfl, ⟨vp, ps, rfl, h1, h2⟩, _, _, rfl, rfl, rfl⟩ := p; exact ⟨a, vp, ps, rfl, h, h1, h2⟩
  | ret x => obtain ⟨vx, _, rfl, h1, rfl⟩ := p; exact ⟨a, vx, rfl, h, h1⟩
theorem w_kitem {K : PySem.W.Frag} {w : World} {d : Addr} {f : Str → Option V} {k : Str} {v : V} {H : Hp} {Q : VK} (T : KTab K w d f) (e : f k = some v) (h : Q v H) : rKItem K w (.ref d) (.str k) H Q := ⟨_, _, _, _, rfl, rfl, T, e, h⟩
theorem w_listKT {K : PySem.W.Frag} {w : World} {d : Addr} {ks : List Str} {H : Hp} {L : List As} {Q : VK} (T : KKeys K w d ks) (hS : Sep H L) (q : ∀ p H', Imm H H' → Sep H' (cellA p (.lst (ks.map V.str)) :: L) → Q (.ref p) H') : rListKT K w [.ref d] H Q :=
  ⟨d, ks, rfl, T, fun p hp => q p _ (Imm.new hp) (hS.new hp)⟩
/-- the word ahead in a body -/
theorem body_word {K : PySem.W.Frag} {w : World} (TK : Tk K w) {r : Addr} {ws : List Str} {i : Nat} {b : List Dd} {rest : List Str} {σ : L2.St} {H : Hp} {L : List As} {Q : VK} (hd : ws.drop i = (ddsW b ++ endW) ++ rest) (h0 : Sep H (rdA K r ws i :: L))
    (q : ∀ H', Imm H H' → Sep H' (rdA K r ws (i + 1) :: L) → Q (.str (nextW b)) H') :
    KMeth (He.ga K "Reader") "word" (sp_Reader_word K w) [] E0 (tCons (tOp rCat (tCB (rListKT K w) (tCons (tC (.ref (He.ga K "DEEDS"))) tNil)) (tLst (tCons (tC (.str "end")) tNil))) tNil) σ Q (.ref r) H := by
  rw [nextW_eq] at hd
  obtain ⟨hy, _⟩ := drop_head hd
  refine rd_meth h0 nmReader_word ?_
  walk_at "st"
  refine w_listKT TK.keys h0 fun l1 H1 i1 s1 => ?_
  walk_at "st"
  refine k_lst (xs := [.str "end"]) s1 fun l2 H2 i2 s2 => ?_
  refine w_cat s2 (s2.pull 1 rfl).cell s2.cell (by decide) fun l3 H3 i3 s3 => ?_
  walk_at "st"
  have s4 : Sep H3 (rdA K r ws i :: cellA l3 _ :: cellA l2 _ :: cellA l1 _ :: L) := (s3.sel 4 [3, 0, 1, 2])
  refine ⟨r, ws, i, nextW b, _, _, rfl, hy, .inr ⟨l3, dKeysE, rfl, SqL.of s3.cell, nextW_in b⟩, s4, fun H4 i4 s5 => ?_⟩
  exact q H4 (i1.trans (i2.trans (i3.trans i4))) (s5.take 1 |> fun _ => (s5.sel 4 [1, 2, 3, 0]).tail.tail.tail)
abbrev n_m_Reader_body : List Str := ["self", "found", "word", "kind"]
def t_m_Reader_body (K : PySem.W.Frag) (w : World) (n : Nat) : TS :=
 (tSeq (tAsg (tTup tNil) (gName 1))
 (tSeq (tAsg (tMeth (He.ga K "Reader") "word" (sp_Reader_word K w) [] E0 (tVar 0) (tCons (tOp rCat (tCB (rListKT K w) (tCons (tC (.ref (He.ga K "DEEDS"))) tNil)) (tLst (tCons (tC (.str "end")) tNil))) tNil)) (gName 2))
 (tSeq (tWhile (tTest (tOp rNe (tVar 2) (tC (.str "end")))) (tSeq (tAsg (tOp (rCatA K) (tVar 1) (tTup (tCons (tOp (rCatA K) (tTup (tCons (tVar 2) tNil)) (tCB (rTupleOf K) (tCons (tLc (iStr (tOp (rKItem K w) (tC (.ref (He.ga K "DEEDS"))) (tVar 2))) (gName 3) tYes (tMeth (He.ga K "Reader") "piece" (sp_Reader_piece n K w) [] E0 (tVar 0) (tCons (tVar 3) tNil)) [3]) tNil))) tNil))) (gName 1))
 (tAsg (tMeth (He.ga K "Reader") "word" (sp_Reader_word K w) [] E0 (tVar 0) (tCons (tOp rCat (tCB (rListKT K w) (tCons (tC (.ref (He.ga K "DEEDS"))) tNil)) (tLst (tCons (tC (.str "end")) tNil))) tNil)) (gName 2))))
 (tRet (tVar 1)))))
theorem st_m_Reader_body {x0 : V} : start n_m_Reader_body [x0] = [some x0, none, none, none] := rfl
theorem pu_m_Reader_body {K : PySem.W.Frag} {w : World} (T : Tb K w) (TK : Tk K w) (n : Nat) (vs : List V) (H : Hp) (Q : VK) (E : XK) (h : sp_Reader_body (n + 1) K w vs H Q E) : t_m_Reader_body K w n { nx := fun _ H' => Q .non H', rt := Q } (start n_m_Reader_body vs) H := by
  obtain ⟨r, ws, i, b, rest, na, nb, prm, L, rfl, hf, hd8, hw, hsz, hna, hnb, hprm, hdr, h0, q⟩ := h
  rw [st_m_Reader_body]
  unfold t_m_Reader_body
  walk_at "st"
  refine k_tup (K := K) h0 fun p0 H1 i1 s1 f1 => ?_
  walk_at "st"
  refine body_word TK hdr s1 fun H2 i2 s2 => ?_
  walk_at "st"
  refine w_while (fun m σ H3 => ∃ b1 b2 fp vs x3, b = b1 ++ b2 ∧ m = b2.length ∧ σ = [some (.ref r), some (.ref fp), some (.str (nextW b2)), x3] ∧ Imm H2 H3 ∧ SqT K H3 fp vs ∧ DdsAt K H3 b1 vs ∧ ws.drop (i + (ddsW b1).length + 1) = tailW rest b2 ∧ Sep H3 (rdA K r ws (i + (ddsW b1).length + 1) :: L)) b.length ?_ fun m σ H3 hP => ?_
  · refine ⟨[], b, p0, [], none, rfl, rfl, rfl, .refl _, i2.t f1, rfl, ?_, s2⟩
    rw [nextW_eq] at hdr
    exact (drop_head hdr).2
  · obtain ⟨b1, b2, fp, vs, x3, rfl, rfl, rfl, i3, f3, g3, hdt, s3⟩ := hP
    walk_at "st"
    cases b2 with
    | nil =>
      rw [show (!decide (nextW [] = "end")) = false from by decide +kernel]
      refine k_done ?_
      walk_at "st"
      rw [List.append_nil] at q
      refine q H3 fp vs (i1.trans (i2.trans i3)) f3 g3 ?_
      rw [List.length_append]
      exact s3
    | cons d b3 =>
      have ed : (b1 ++ d :: b3)[b1.length]? = some d := by simp
      have hdw := wfDs_get hw ed
      have hddp := dpDs_get ed
      have hsz1 := szDs_le1 ed
      have hok := pcs_ok hna hnb hprm hdw
      have hdt : ws.drop (i + (ddsW b1).length + 1) = pcsW d.pcs ++ ((ddsW b3 ++ endW) ++ rest) := hdt
      have hlv := g3.len
      rw [show (!decide (nextW (d :: b3) = "end")) = true from by rw [Bool.not_eq_true', decide_eq_false_iff_not]; exact dd_no_end d]
      refine k_turn ?_
      rw [show nextW (d :: b3) = d.word from rfl]
      walk_at "st"
      refine k_tup (K := K) s3 fun p1 H4 i4 s4 f4 => ?_
      walk_at "st"
      refine w_iStr ?_
      walk_at "st"
      refine w_kitem T.deeds d.tab ?_
      refine k_its ?_
      have hcs : d.shape.cps.size = d.pcs.length := by
        have := congrArg List.length d.shapes
        rw [List.length_map, Array.length_toList] at this
        exact this
      refine k_lcS s4 (fun D k H5 => Imm H4 H5 ∧ ∃ us, PcsAt K H5 (d.pcs.take k) us ∧ Sep H5 (cellA D (.lst us) :: rdA K r ws (i + (ddsW b1).length + 1 + (pcsW (d.pcs.take k)).length) :: L)) (fun D H' i h => ⟨i, [], rfl, h⟩) (fun D k c H5 hc hP => ?_) fun D H5 hP => ?_
      · obtain ⟨i5, us, g5, s5⟩ := hP
        have hc2 : (d.pcs.map Pc.code)[k]? = some c := by rw [← d.shapes]; simpa using hc
        rw [List.getElem?_map] at hc2
        cases epc : d.pcs[k]? with
        | none => rw [epc] at hc2; cases hc2
        | some pc =>
          rw [epc] at hc2
          obtain rfl := Option.some.inj hc2
          have hpok := hok pc (List.mem_of_getElem? epc)
          have hk3 : k < 3 := by
            have := (List.getElem?_eq_some_iff.mp epc).1
            have : d.pcs.length ≤ 3 := by cases d <;> simp [Dd.pcs]
            omega
          have hdk : ws.drop (i + (ddsW b1).length + 1 + (pcsW (d.pcs.take k)).length) = pc.ws ++ (pcsW (d.pcs.drop (k + 1)) ++ ((ddsW b3 ++ endW) ++ rest)) := by
            have hk := (List.getElem?_eq_some_iff.mp epc).1
            have e2 : d.pcs = d.pcs.take k ++ (pc :: d.pcs.drop (k + 1)) := by
              have e3 : d.pcs.drop k = pc :: d.pcs.drop (k + 1) := by
                rw [List.drop_eq_getElem_cons hk]
                rw [List.getElem?_eq_getElem hk] at epc
                rw [Option.some.inj epc]
              rw [← e3, List.take_append_drop]
            have e4 : pcsW d.pcs = pcsW (d.pcs.take k) ++ (pc.ws ++ pcsW (d.pcs.drop (k + 1))) := by
              conv => lhs; rw [e2]
              rw [pcsW_app]; rfl
            rw [e4] at hdt
            have := drop_app (a := pcsW (d.pcs.take k)) (by rw [hdt, List.append_assoc, List.append_assoc])
            rw [this]
          refine k_lcB ?_
          walk_at "st"
          refine w_yes rfl ?_
          walk_at "st"
          refine rd_meth s5.swap nmReader_piece ?_
          walk_at "st"
          have hfu : pc.fuel n := by
            cases pc with
            | bs l => have := hpok.2.1; show 2 * dpDs l + 1 < n; omega
            | _ => trivial
          have hd1 : 1 ≤ d.dp := by cases d <;> simp [Dd.dp] <;> omega
          refine ⟨r, ws, _, pc, _, na, nb, prm, d.dp, d.sz, _, rfl, by omega, hfu, hpok, by omega, by omega, hna, hnb, hprm, hdk, s5.swap, fun H6 v i6 g6 s6 => ?_⟩
          have s7 := s6.swap
          have hul := g5.len
          rw [List.length_take] at hul
          refine k_acc s7.cell (by omega) ⟨i5.trans (i6.trans (s7.imm rfl)), us ++ [v], ?_, ?_⟩
          · rw [take_snoc epc]
            exact ((g5.mono i6).mono (s7.imm rfl)).app ⟨v, [], rfl, g6.mono (s7.imm rfl), rfl⟩
          · rw [take_snoc epc, pcsW_snoc, List.length_append, ← Nat.add_assoc]
            exact s7.set rfl
      · obtain ⟨i5, us, g5, s5⟩ := hP
        rw [hcs, List.take_length] at g5 s5
        have hul := g5.len
        have hp3 : d.pcs.length ≤ 3 := by cases d <;> simp [Dd.pcs]
        walk_at "st"
        refine w_tupL s5 (SqL.of s5.cell) fun p2 H6 i6 s6 f6 => ?_
        refine w_catA s6 ((i5.trans i6).t f4) f6 (by show 1 + us.length ≤ 1000; omega) fun p3 H7 i7 s7 f7 => ?_
        walk_at "st"
        refine k_tup (K := K) s7 fun p4 H8 i8 s8 f8 => ?_
        have hbl : b1.length ≤ 100 := by
          have e1 : ∀ l : List Dd, l.length ≤ szDs l := fun l => by
            induction l with
            | nil => exact Nat.le_refl _
            | cons x r ih => have := szDd_pos x; show r.length + 1 ≤ x.sz + szDs r; omega
          have := e1 ((b1 ++ d :: b3).take b1.length)
          rw [List.take_left] at this hsz1
          omega
        have i38 := i4.trans (i5.trans (i6.trans (i7.trans i8)))
        refine w_catA s8 (i38.t f3) f8 (by show vs.length + 1 ≤ 1000; omega) fun p5 H9 i9 s9 f9 => ?_
        walk_at "st"
        have hdb : ws.drop (i + (ddsW b1).length + 1 + (pcsW d.pcs).length) = (ddsW b3 ++ endW) ++ rest := drop_app hdt
        have elen : i + (ddsW (b1 ++ [d])).length = i + (ddsW b1).length + 1 + (pcsW d.pcs).length := by
          rw [ddsW_snoc, d.words, List.length_append, List.length_cons]; omega
        refine body_word TK hdb s9.tail fun H10 i10 s10 => ?_
        walk_at "st"
        refine ⟨b3.length, by rw [List.length_cons]; omega, b1 ++ [d], b3, p5, _, _, by rw [List.append_assoc]; rfl, rfl, rfl, i3.trans (i38.trans (i9.trans i10)), i10.t f9, ?_, ?_, ?_⟩
        · exact (g3.mono (i38.trans (i9.trans i10))).app ⟨_, [], rfl, ddAt_of ((i8.trans (i9.trans i10)).t f7) (g5.mono (i6.trans (i7.trans (i8.trans (i9.trans i10))))), rfl⟩
        · rw [elen]
          rw [nextW_eq] at hdb
          exact (drop_head hdb).2
        · rw [elen]; exact s10
end SD
set_option Elab.async false
set_option linter.all false
set_option maxRecDepth 100000
set_option maxHeartbeats 4000000
namespace SD
--@L law_k13_texts
open PySem PySem.Spec PyProof.Rows L2
local macro_rules | `(tactic| walk_at "s1") => `(tactic| first
  | with_reducible refine w_nT ?_
  | with_reducible refine w_nF ?_
  | with_reducible refine w_frzS ?_
  | with_reducible refine w_seq ?_
  | with_reducible refine w_next ?_
  | with_reducible refine w_asg ?_
  | with_reducible refine w_drop ?_
  | with_reducible refine w_ret ?_
  | with_reducible refine w_retN ?_
  | with_reducible refine w_ifs ?_
  | with_reducible refine w_par ?_
  | with_reducible refine w_c ?_
  | with_reducible refine w_nil ?_
  | with_reducible refine w_cons ?_
  | with_reducible refine w_op ?_
  | with_reducible refine w_un ?_
  | with_reducible refine w_rI0 ?_
  | with_reducible refine w_rU ?_
  | with_reducible refine w_test ?_
  | with_reducible refine w_b ?_
  | with_reducible refine w_bl ?_
  | with_reducible refine w_and ?_
  | with_reducible refine w_or ?_
  | with_reducible refine w_not ?_
  | with_reducible refine w_andV ?_
  | with_reducible refine w_orV ?_
  | with_reducible refine w_notV ?_
  | with_reducible refine w_if ?_
  | with_reducible refine w_chain ?_
  | with_reducible refine w_eqI ?_
  | with_reducible refine w_neI ?_
  | with_reducible refine w_eqS ?_
  | with_reducible refine w_neS ?_
  | with_reducible refine w_pcons ?_
  | with_reducible refine w_pnil ?_
  | with_reducible refine w_dget ?_
  | with_reducible refine w_dget2 ?_
  | with_reducible refine w_dput ?_
  | with_reducible refine w_neB ?_
  | with_reducible refine w_eqB ?_
  | with_reducible refine w_isNb ?_
  | with_reducible refine w_isNs ?_
  | with_reducible refine w_min ?_
  | with_reducible refine w_max ?_
  | with_reducible refine w_isNn ?_
  | with_reducible refine w_isNi ?_
  | with_reducible refine w_isNr ?_
  | with_reducible refine w_notNn ?_
  | with_reducible refine w_notNi ?_
  | with_reducible refine w_notNr ?_
  | with_reducible refine w_call ?_
  | with_reducible refine w_cb ?_
  | with_reducible refine w_meth ?_
  | with_reducible refine w_make ?_
  | with_reducible refine w_tup ?_
  | with_reducible refine w_lst ?_
  | with_reducible refine w_int1b ?_
  | with_reducible refine w_int1 ?_
  | with_reducible refine w_gNil ?_
  | with_reducible refine w_gCons ?_
  | with_reducible refine w_gSub ?_
  | with_reducible refine w_bm ?_
  | with_reducible refine w_sl ?_
  | with_reducible refine w_part ?_
  | with_reducible refine w_partI ?_
  | with_reducible refine w_noPart ?_
  | with_reducible refine w_for ?_
  | with_reducible refine w_lc ?_
  | with_reducible refine w_rng1 ?_
  | with_reducible refine w_iList ?_
  | with_reducible refine w_iTup ?_
  | with_reducible refine w_break ?_
  | with_reducible refine w_cont ?_
  | ((with_reducible refine' w_var ?h ?_); (case h => exact rfl))
  | ((with_reducible refine' w_gName ?h ?_); (case h => (simp only [wipe, List.set]; rfl)))
  | ((with_reducible refine' w_par2 ?h ?_); (case h => (simp only [wipe, List.set]; rfl)))
  | ((with_reducible refine' w_mod ?h ?_); (case h => omega))
  | ((with_reducible refine' w_mul ?h ?_); (case h => omega))
  | ((with_reducible refine' w_rng1I ?h ?_); (case h => omega))
  | with_reducible refine iteT ?_
  | with_reducible refine iteF ?_
  | ((with_reducible refine' iteDT ?h ?_); (case h => omega))
  | ((with_reducible refine' iteDF ?h ?_); (case h => omega))
  | ((with_reducible refine' iteNT ?h ?_); (case h => omega))
  | ((with_reducible refine' iteNF ?h ?_); (case h => omega))
  | ((with_reducible refine' iteDT ?h ?_); (case h => decide +kernel))
  | ((with_reducible refine' iteDF ?h ?_); (case h => decide +kernel))
  | ((with_reducible refine' iteNT ?h ?_); (case h => decide +kernel))
  | ((with_reducible refine' iteNF ?h ?_); (case h => decide +kernel))
  | fail "stop")
local macro_rules | `(tactic| walk_at "st") => `(tactic| (walk_at "s1"; repeat' walk_at "s1"))
/-! ### no blank in a word; the text is split as it was joined -/
def NoB (l : List Str) : Prop := ∀ x ∈ l, 32 ∉ x.cps.toList
theorem NoB.app {a b : List Str} (h : NoB a) (g : NoB b) : NoB (a ++ b) := fun x hx => (List.mem_append.mp hx).elim (h x) (g x)
theorem NoB.cons {x : Str} {b : List Str} (h : 32 ∉ x.cps.toList) (g : NoB b) : NoB (x :: b) := fun y hy => (List.mem_cons.mp hy).elim (fun e => by rw [e]; exact h) (g y)
theorem NoB.nil : NoB [] := fun _ h => nomatch h
theorem nW_nob {n : Nat} : 32 ∉ (nW (n : Nat)).cps.toList := by
  rw [show (nW (n : Nat)).cps.toList = TL.numL n from TL.tl_num n]
  exact TL.numL_free (.inl (by decide))
theorem pre_nob {c n : Nat} (h : c ≠ 32) : 32 ∉ ((⟨#[c]⟩ : Str) ++ nW (n : Nat)).cps.toList := by
  rw [pre_S]
  intro z
  rcases List.mem_cons.mp z with e | e
  · exact h e.symm
  · exact TL.numL_free (.inl (by decide)) e
theorem nW_nobI {i : Int} (h : 0 ≤ i) : 32 ∉ (nW i).cps.toList := by
  obtain ⟨n, rfl⟩ := Int.eq_ofNat_of_zero_le h
  exact nW_nob
theorem op_nob (o : Op2) : 32 ∉ o.str.cps.toList := by cases o <;> decide +kernel
theorem ptW_nob {na nb : Nat} : ∀ {p : Pt}, p.wf na nb = true → NoB (ptW p)
  | .num i, h => by
    have h : (decide (0 ≤ i) && decide (i < REST)) = true := h
    rw [Bool.and_eq_true, decide_eq_true_eq] at h
    exact .cons (nW_nobI h.1) .nil
  | .name k, _ => .cons (pre_nob (c := 110) (by decide)) .nil
  | .cell k, _ => .cons (pre_nob (c := 99) (by decide)) .nil
  | .two o a b, h => by
    have h : (a.wf na nb && b.wf na nb) = true := h
    rw [Bool.and_eq_true] at h
    exact .cons (op_nob o) ((ptW_nob h.1).app (ptW_nob h.2))
theorem ptsW_nob {na nb : Nat} : ∀ {p : List Pt}, wfPs na nb p = true → NoB (ptsW p)
  | [], _ => .nil
  | p :: r, h => by
    have h : (p.wf na nb && wfPs na nb r) = true := h
    rw [Bool.and_eq_true] at h
    exact (ptW_nob h.1).app (ptsW_nob h.2)
theorem end_nob : NoB endW := .cons (by decide +kernel) .nil
mutual
theorem ddW_nob {na nb : Nat} {prm : List Nat} : ∀ {d : Dd}, d.wf na nb prm = true → NoB (ddW d)
  | .set k x, h => by
    have h : (decide (k < na) && x.wf na nb) = true := h
    rw [Bool.and_eq_true] at h
    exact .cons (by decide +kernel) (.cons nW_nob (ptW_nob h.2))
  | .put k x, h => by
    have h : (decide (k < nb) && x.wf na nb) = true := h
    rw [Bool.and_eq_true] at h
    exact .cons (by decide +kernel) (.cons nW_nob (ptW_nob h.2))
  | .say x, h => .cons (by decide +kernel) (ptW_nob h)
  | .iff x b c, h => by
    have h : (x.wf na nb && (wfDs na nb prm b && wfDs na nb prm c)) = true := h
    rw [Bool.and_eq_true, Bool.and_eq_true] at h
    exact .cons (by decide +kernel) ((ptW_nob h.1).app (((ddsW_nob h.2.1).app end_nob).app ((ddsW_nob h.2.2).app end_nob)))
  | .again x b, h => by
    have h : (x.wf na nb && wfDs na nb prm b) = true := h
    rw [Bool.and_eq_true] at h
    exact .cons (by decide +kernel) ((ptW_nob h.1).app ((ddsW_nob h.2).app end_nob))
  | .call f xs k, h => by
    have h : (decide (prm[f]? = some xs.length) && (decide (k < na) && wfPs na nb xs)) = true := h
    rw [Bool.and_eq_true, Bool.and_eq_true] at h
    exact .cons (by decide +kernel) (.cons nW_nob (.cons nW_nob ((ptsW_nob h.2.2).app (.cons nW_nob .nil))))
  | .ret x, h => .cons (by decide +kernel) (ptW_nob h)
theorem ddsW_nob {na nb : Nat} {prm : List Nat} : ∀ {d : List Dd}, wfDs na nb prm d = true → NoB (ddsW d)
  | [], _ => .nil
  | d :: r, h => by
    have h : (d.wf na nb prm && wfDs na nb prm r) = true := h
    rw [Bool.and_eq_true] at h
    exact (ddW_nob h.1).app (ddsW_nob h.2)
end
theorem funsW_nob {p : Prog} (W : p.Wf) : ∀ {l : List Fn}, (∀ f ∈ l, f ∈ p.funs) → NoB (funsW l)
  | [], _ => .nil
  | f :: r, h => NoB.app (NoB.app (.cons (by decide +kernel) (.cons nW_nob (.cons nW_nob .nil))) ((ddsW_nob (W.bodies f (h f (List.mem_cons_self ..)))).app end_nob)) (funsW_nob W fun g hg => h g (List.mem_cons_of_mem _ hg))
theorem progW_nob {p : Prog} (W : p.Wf) : NoB (progW p) := by
  refine NoB.app (NoB.app (NoB.app (.cons (by decide +kernel) (.cons nW_nob .nil)) fun x hx => ?_) (funsW_nob W fun f hf => hf)) (NoB.app (.cons (by decide +kernel) (.cons nW_nob .nil)) fun x hx => ?_)
  · obtain ⟨c, hc, rfl⟩ := List.mem_map.mp hx
    exact nW_nobI (W.cellsR c hc).1
  · obtain ⟨c, hc, rfl⟩ := List.mem_map.mp hx
    exact nW_nob
theorem split_join {ws : List Str} (hne : ws ≠ []) (h : NoB ws) : Txt.split (Txt.join (" " : Str) ws) " " = ws := by
  have e : ws = (ws.map fun x => x.cps.toList).map SX.S := by
    rw [List.map_map]
    conv => lhs; rw [← List.map_id ws]
    refine List.map_congr_left fun x _ => ?_
    exact (SX.S_tl x).symm
  have e2 : (" " : Str) = SX.S [32] := by decide +kernel
  generalize ws.map (fun x => x.cps.toList) = ls at e
  subst e
  rw [e2, SX.join_S, SX.split_S (by decide) (by decide), SX.spl_join (by intro z; rw [z] at hne; exact hne rfl) fun p hp => h _ (List.mem_map.mpr ⟨p, hp, rfl⟩)]
theorem join_len {ws : List Str} : (Txt.join (" " : Str) ws).length ≤ (ws.map (·.length)).sum + ws.length := by
  have e : ws = (ws.map fun x => x.cps.toList).map SX.S := by
    rw [List.map_map]
    conv => lhs; rw [← List.map_id ws]
    refine List.map_congr_left fun x _ => ?_
    exact (SX.S_tl x).symm
  have e2 : (" " : Str) = SX.S [32] := by decide +kernel
  generalize ws.map (fun x => x.cps.toList) = ls at e
  subst e
  rw [e2, SX.join_S, SX.S_len, SX.lens, List.length_map]
  induction ls with
  | nil => exact Nat.zero_le _
  | cons a r ih =>
    cases r with
    | nil => show a.length ≤ a.length + 0 + 1; omega
    | cons b r =>
      show (a ++ ([32] ++ TL.joinL [32] (b :: r))).length ≤ (a.length + ((b :: r).map List.length).sum) + ((b :: r).length + 1)
      rw [List.length_append, List.length_append]
      have e1 : ((b :: r).map fun x => x.length) = (b :: r).map List.length := rfl
      have e2 : ([32] : List Nat).length = 1 := rfl
      have ih2 : (TL.joinL [32] (b :: r)).length ≤ ((b :: r).map List.length).sum + (b :: r).length := ih
      omega
theorem text_len {p : Prog} (W : p.Wf) : (textOf p).length ≤ 1000000 := by
  have h1 := short_sum (progW_short W)
  have h2 := progW_len W
  have h3 := join_len (ws := progW p)
  unfold textOf
  omega
theorem text_ne {p : Prog} (W : p.Wf) : textOf p ≠ "" := fun z => by
  have h := split_join (ws := progW p) (by unfold progW cellsW; simp) (progW_nob W)
  rw [show Txt.join (" " : Str) (progW p) = "" from z] at h
  have e : Txt.split ("" : Str) " " = [("" : Str)] := by decide +kernel
  rw [e] at h
  unfold progW cellsW at h
  have h2 : ("" : Str) = "cells" := (List.cons.inj h).1
  have h3 : ("" : Str) ≠ "cells" := by decide +kernel
  exact h3 h2
/-! ### read -/
def sp_read (K : PySem.W.Frag) (w : World) : Sp := fun vs H Q _ => ∃ (p : Prog) (L : List As), vs = [.str (textOf p)] ∧ p.Wf ∧ Sep H L ∧ ∀ H' v, Imm H H' → ProgAt K H' p v → Sep H' L → Q v H'
theorem ints_nats : ∀ {xs : List Int}, (∀ x ∈ xs, 0 ≤ x ∧ x < REST) → ∃ ns : List Nat, xs = ns.map (fun n => ((n : Nat) : Int)) ∧ ∀ n ∈ ns, n < 10007
  | [], _ => ⟨[], rfl, fun _ h => nomatch h⟩
  | x :: r, h => by
    obtain ⟨ns, e, h2⟩ := ints_nats fun y hy => h y (List.mem_cons_of_mem _ hy)
    obtain ⟨h3, h4⟩ := h x (List.mem_cons_self ..)
    obtain ⟨n, rfl⟩ := Int.eq_ofNat_of_zero_le h3
    have h4 : (n : Int) < 10007 := h4
    exact ⟨n :: ns, by rw [e]; rfl, fun m hm => (List.mem_cons.mp hm).elim (fun e => by omega) (h2 m)⟩
/-- the next word where funs are told, and what follows it -/
def nextF : List Fn → Str
  | [] => "hands"
  | _ :: _ => "fun"
def tailF (rest : List Str) : List Fn → List Str
  | [] => rest
  | f :: r => nW (f.params : Nat) :: nW (f.names : Nat) :: ((ddsW f.body ++ endW) ++ (funsW r ++ (("hands" : Str) :: rest)))
theorem nextF_eq (rest : List Str) (b : List Fn) : funsW b ++ (("hands" : Str) :: rest) = nextF b :: tailF rest b := by
  cases b with
  | nil => rfl
  | cons f r =>
    show (funW f ++ funsW r) ++ _ = _
    unfold funW
    show _ = ("fun" : Str) :: (nW (f.params : Nat) :: nW (f.names : Nat) :: ((ddsW f.body ++ endW) ++ (funsW r ++ (("hands" : Str) :: rest))))
    simp only [List.cons_append, List.append_assoc, List.nil_append]
theorem use_rnumber {K : PySem.W.Frag} {w : World} {H : Hp} {L : List As} {Q : VK} {E : XK} {r : Addr} {ws : List Str} {i n : Nat} (h : Sep H (rdA K r ws i :: L)) (e : ws[i]? = some (nW (n : Nat))) (hn : n < 10007) (q : ∀ H', Imm H H' → Sep H' (rdA K r ws (i + 1) :: L) → Q (.int (n : Nat)) H') : sp_Reader_number K w [.ref r] H Q E :=
  ⟨r, ws, i, n, L, rfl, e, hn, h, q⟩
theorem k_rinit {K : PySem.W.Frag} {w : World} {H : Hp} {L : List As} {Q : VK} {E : XK} {z : Str} (h : Sep H L) (hz : z.length ≤ 1000000) (hne : z ≠ "") (q : ∀ x H', Imm H H' → Sep H' (rdA K x (Txt.split z " ") 0 :: L) → Q (.ref x) H') : KMake (He.ga K "Reader") (sp_Reader_init K w) [] E Q [.str z] H := by
  intro x dx hx hdx hnx
  have hx2 : upd H dx (.own x) x = none := by rw [upd_ne hnx.symm]; exact hx
  have s := (h.skip (o := .own x) hdx).new (o := .ins (He.ga K "Reader") dx []) hx2
  have j := (Imm.new (o := .own x) hdx).trans (Imm.new (o := .ins (He.ga K "Reader") dx []) hx2)
  exact ⟨x, dx, z, L, rfl, hz, hne, s, fun H' i s' => ⟨rfl, q x H' (j.trans i) s'⟩⟩
abbrev n_f_read : List Str := ["text", "reader", "cells", "funs", "params", "names", "program"]
def t_f_read (K : PySem.W.Frag) (w : World)  : TS :=
 (tSeq (tAsg (tMake (He.ga K "Reader") (sp_Reader_init K w) [] E0 (tCons (tVar 0) tNil)) (gName 1))
 (tSeq (tDrop (tMeth (He.ga K "Reader") "word" (sp_Reader_word K w) [] E0 (tVar 1) (tCons (tLst (tCons (tC (.str "cells")) tNil)) tNil)))
 (tSeq (tAsg (tMeth (He.ga K "Reader") "numbers" (sp_Reader_numbers K w) [] E0 (tVar 1) tNil) (gName 2))
 (tSeq (tAsg (tTup tNil) (gName 3))
 (tSeq (tWhile (tTest (tOp rEq (tMeth (He.ga K "Reader") "word" (sp_Reader_word K w) [] E0 (tVar 1) (tCons (tLst (tCons (tC (.str "fun")) (tCons (tC (.str "hands")) tNil))) tNil)) (tC (.str "fun")))) (tSeq (tAsg (tMeth (He.ga K "Reader") "number" (sp_Reader_number K w) [] E0 (tVar 1) tNil) (gName 4))
 (tSeq (tAsg (tMeth (He.ga K "Reader") "number" (sp_Reader_number K w) [] E0 (tVar 1) tNil) (gName 5))
 (tAsg (tOp (rCatA K) (tVar 3) (tTup (tCons (tTup (tCons (tVar 4) (tCons (tVar 5) (tCons (tMeth (He.ga K "Reader") "body" (sp_Reader_body 18 K w) [] E0 (tVar 1) tNil) tNil)))) tNil))) (gName 3)))))
 (tSeq (tAsg (tTup (tCons (tVar 2) (tCons (tVar 3) (tCons (tMeth (He.ga K "Reader") "numbers" (sp_Reader_numbers K w) [] E0 (tVar 1) tNil) tNil)))) (gName 6))
 (tSeq (tIfS (tTest (tOp (rI0 fun i j => .bl (decide (i < j))) (xfReader_at K (tVar 1)) (tCB (rLenS' K) (tCons (xfReader_words K (tVar 1)) tNil)))) tNever tNext)
 (tSeq (tDrop (tCall (sp_need_program K w) [] E0 (tCons (tVar 6) tNil)))
 (tRet (tVar 6))))))))))
theorem st_f_read {x0 : V} : start n_f_read [x0] = [some x0, none, none, none, none, none, none] := rfl
theorem pu_f_read {K : PySem.W.Frag} {w : World} (vs : List V) (H : Hp) (Q : VK) (E : XK) (h : sp_read K w vs H Q E) : t_f_read K w { nx := fun _ H' => Q .non H', rt := Q } (start n_f_read vs) H := by
  obtain ⟨p, L, rfl, W, h0, q⟩ := h
  have w1 := W.cells8
  have w2 := W.hands3
  have w4 := W.funs4
  have w5 := W.size
  have hp : p.params.length ≤ 10007 := by show (p.funs.map _).length ≤ 10007; rw [List.length_map]; omega
  have hspl : Txt.split (textOf p) " " = progW p := split_join (by unfold progW cellsW; simp) (progW_nob W)
  obtain ⟨cs, ecs, hcs⟩ := ints_nats W.cellsR
  have ecl : p.cells.length = cs.length := by rw [ecs, List.length_map]
  have ews : progW p = ("cells" : Str) :: (nW (cs.length : Nat) :: (cs.map fun n => nW (n : Nat)) ++ (funsW p.funs ++ (("hands" : Str) :: (nW (p.hands.length : Nat) :: (p.hands.map fun n => nW (n : Nat)) ++ [])))) := by
    unfold progW cellsW handsW
    rw [ecl, ecs, List.map_map]
    simp only [List.cons_append, List.append_assoc, List.nil_append, List.append_nil]
    rfl
  rw [st_f_read]
  unfold t_f_read
  walk_at "st"
  refine k_rinit h0 (text_len W) (text_ne W) fun r H1 i1 s1 => ?_
  rw [hspl] at s1
  generalize progW p = ws at ews s1
  have d0 : ws.drop 0 = ("cells" : Str) :: (nW (cs.length : Nat) :: (cs.map fun n => nW (n : Nat)) ++ (funsW p.funs ++ (("hands" : Str) :: (nW (p.hands.length : Nat) :: (p.hands.map fun n => nW (n : Nat)) ++ [])))) := ews
  obtain ⟨y0, d1⟩ := drop_head d0
  walk_at "st"
  refine rd_meth s1 nmReader_word ?_
  walk_at "st"
  refine k_lst (xs := [.str "cells"]) s1 fun l1 H2 i2 s2 => ?_
  walk_at "st"
  refine ⟨r, ws, 0, "cells", _, _, rfl, y0, .inr ⟨l1, ["cells"], rfl, SqL.of s2.cell, List.mem_singleton.mpr rfl⟩, s2.swap, fun H3 i3 s3 => ?_⟩
  have s3 := s3.swap.tail
  walk_at "st"
  refine rd_meth s3 nmReader_numbers ?_
  walk_at "st"
  refine ⟨r, ws, 1, cs, _, L, rfl, d1, hcs, by omega, s3, fun H4 pc i4 f4 s4 => ?_⟩
  have d2 := drop_app (a := nW (cs.length : Nat) :: (cs.map fun n => nW (n : Nat))) d1
  have el : 1 + (nW (cs.length : Nat) :: (cs.map fun n => nW (n : Nat))).length = 0 + 1 + 1 + cs.length := by rw [List.length_cons, List.length_map]; omega
  rw [el] at d2
  walk_at "st"
  refine k_tup (K := K) s4 fun p0 H5 i5 s5 f5 => ?_
  walk_at "st"
  generalize 0 + 1 + 1 + cs.length = at0 at d2 s4 s5
  refine w_while (fun m σ H6 => ∃ b1 b2 fp vs x4 x5, p.funs = b1 ++ b2 ∧ m = b2.length ∧ σ = [some (.str (textOf p)), some (.ref r), some (.ref pc), some (.ref fp), x4, x5, none] ∧ Imm H5 H6 ∧ SqT K H6 fp vs ∧ FnsAt K H6 b1 vs ∧ ws.drop (at0 + (funsW b1).length) = funsW b2 ++ (("hands" : Str) :: (nW (p.hands.length : Nat) :: (p.hands.map fun n => nW (n : Nat)) ++ [])) ∧ Sep H6 (rdA K r ws (at0 + (funsW b1).length) :: L)) p.funs.length ?_ fun m σ H6 hP => ?_
  · exact ⟨[], p.funs, p0, [], none, none, rfl, rfl, rfl, .refl _, f5, rfl, d2, s5⟩
  · obtain ⟨b1, b2, fp, vs, x4, x5, eb, rfl, rfl, i6, f6, g6, hdr, s6⟩ := hP
    rw [nextF_eq] at hdr
    obtain ⟨y6, d6⟩ := drop_head hdr
    have i06 := i1.trans (i2.trans (i3.trans (i4.trans (i5.trans i6))))
    walk_at "st"
    refine rd_meth s6 nmReader_word ?_
    walk_at "st"
    refine k_lst (xs := [.str "fun", .str "hands"]) s6 fun l7 H7 i7 s7 => ?_
    walk_at "st"
    refine ⟨r, ws, _, _, _, _, rfl, y6, .inr ⟨l7, ["fun", "hands"], rfl, SqL.of s7.cell, by cases b2 <;> simp [nextF]⟩, s7.swap, fun H8 i8 s8 => ?_⟩
    have s8 := s8.swap.tail
    have i68 := i7.trans i8
    walk_at "st"
    cases b2 with
    | nil =>
      rw [show decide (nextF [] = "fun") = false from by decide +kernel]
      refine k_done ?_
      walk_at "st"
      refine rd_meth s8 nmReader_numbers ?_
      walk_at "st"
      refine ⟨r, ws, _, p.hands, [], L, rfl, d6, fun n hn => by have := handsR_lt W hn; omega, by omega, s8, fun H9 ph i9 f9 s9 => ?_⟩
      have d7 := drop_app (a := nW (p.hands.length : Nat) :: (p.hands.map fun n => nW (n : Nat))) d6
      rw [List.length_cons, List.length_map] at d7
      have hwl : ws.length ≤ at0 + (funsW b1).length + 1 + (p.hands.length + 1) := List.drop_eq_nil_iff.mp d7
      walk_at "st"
      refine k_tup (K := K) s9 fun pp H10 i10 s10 f10 => ?_
      walk_at "st"
      obtain ⟨dx, l, e1, e2, _⟩ := s10.rd
      refine w_xat ?_
      walk_at "st"
      refine k_xat e1 ?_
      walk_at "st"
      refine w_xwords ?_
      walk_at "st"
      refine k_xwords e1 ?_
      walk_at "st"
      refine w_lenL (SqL.of e2) ?_
      walk_at "st"
      rw [decide_eq_false (show ¬ ((at0 + (funsW b1).length + 1 + 1 + p.hands.length : Nat) : Int) < ((ws.map V.str).length : Nat) by rw [List.length_map]; omega)]
      walk_at "st"
      have hprog : ProgAt K H10 p (.ref pp) := by
        have eb : p.funs = b1 := by rw [eb, List.append_nil]
        refine ⟨pp, pc, fp, ph, vs, rfl, f10, ?_, ?_, ?_, ?_⟩
        · rw [ecs, List.map_map]
          exact (i5.trans (i6.trans (i68.trans (i9.trans i10)))).t f4
        · exact (i68.trans (i9.trans i10)).t f6
        · rw [eb]; exact g6.mono (i68.trans (i9.trans i10))
        · exact i10.t f9
      refine use_need s10 hprog W fun H11 i11 s11 => ?_
      walk_at "st"
      exact q H11 _ (i06.trans (i68.trans (i9.trans (i10.trans i11)))) (hprog.mono i11) s11.tail
    | cons f b3 =>
      rw [show decide (nextF (f :: b3) = "fun") = true from by show decide (("fun" : Str) = "fun") = true; decide +kernel]
      refine k_turn ?_
      have hf : f ∈ p.funs := by rw [eb]; exact List.mem_append_right _ (List.mem_cons_self ..)
      have n1 := W.names f hf
      have n2 := W.bodies f hf
      have n3 := W.deep f hf
      have n4 := sz_mem0 hf
      have d6 : ws.drop (at0 + (funsW b1).length + 1) = nW (f.params : Nat) :: (nW (f.names : Nat) :: ((ddsW f.body ++ endW) ++ (funsW b3 ++ (("hands" : Str) :: (nW (p.hands.length : Nat) :: (p.hands.map fun n => nW (n : Nat)) ++ []))))) := d6
      obtain ⟨y7, d7⟩ := drop_head d6
      obtain ⟨y8, d8⟩ := drop_head d7
      walk_at "st"
      refine rd_meth s8 nmReader_number ?_
      walk_at "st"
      refine use_rnumber s8 y7 (by omega) fun H9 i9 s9 => ?_
      walk_at "st"
      refine rd_meth s9 nmReader_number ?_
      walk_at "st"
      refine use_rnumber s9 y8 (by omega) fun H10 i10 s10 => ?_
      walk_at "st"
      refine rd_meth s10 nmReader_body ?_
      walk_at "st"
      refine ⟨r, ws, _, f.body, _, f.names, p.cells.length, p.params, L, rfl, by omega, n3, n2, by omega, by omega, by omega, hp, d8, s10, fun H11 va vbs i11 f11 g11 s11 => ?_⟩
      walk_at "st"
      refine k_tup (K := K) s11 fun ft H12 i12 s12 f12 => ?_
      walk_at "st"
      refine k_tup (K := K) s12 fun t1 H13 i13 s13 f13 => ?_
      have hvl := g6.len
      have hbl : b1.length ≤ 4 := by rw [eb, List.length_append] at w4; omega
      have i613 := i68.trans (i9.trans (i10.trans (i11.trans (i12.trans i13))))
      refine w_catA s13 (i613.t f6) f13 (by show vs.length + 1 ≤ 1000; omega) fun fp2 H14 i14 s14 f14 => ?_
      walk_at "st"
      have el2 : at0 + (funsW (b1 ++ [f])).length = at0 + (funsW b1).length + 1 + 1 + 1 + (ddsW f.body ++ endW).length := by
        rw [funsW_snoc]; unfold funW; simp only [List.length_append, List.length_cons, List.length_nil]; omega
      refine ⟨b3.length, by rw [List.length_cons]; omega, b1 ++ [f], b3, fp2, _, _, _, by rw [eb, List.append_assoc]; rfl, rfl, rfl, i6.trans (i613.trans i14), f14, ?_, ?_, ?_⟩
      · exact (g6.mono (i613.trans i14)).app ⟨_, [], rfl, ⟨ft, .ref va, rfl, (i13.trans i14).t f12, va, vbs, rfl, (i12.trans (i13.trans i14)).t f11, g11.mono (i12.trans (i13.trans i14))⟩, rfl⟩
      · rw [el2]
        exact drop_app d8
      · rw [el2]; exact s14
end SD
set_option Elab.async false
set_option linter.all false
set_option maxRecDepth 100000
set_option maxHeartbeats 4000000
namespace SD
--@L law_k13_texts
open PySem PySem.Spec PyProof.Rows L2
local macro_rules | `(tactic| walk_at "s1") => `(tactic| first
  | with_reducible refine w_nT ?_
  | with_reducible refine w_nF ?_
  | with_reducible refine w_frzS ?_
  | with_reducible refine w_seq ?_
  | with_reducible refine w_next ?_
  | with_reducible refine w_asg ?_
  | with_reducible refine w_drop ?_
  | with_reducible refine w_ret ?_
  | with_reducible refine w_retN ?_
  | with_reducible refine w_ifs ?_
  | with_reducible refine w_par ?_
  | with_reducible refine w_c ?_
  | with_reducible refine w_nil ?_
  | with_reducible refine w_cons ?_
  | with_reducible refine w_op ?_
  | with_reducible refine w_un ?_
  | with_reducible refine w_rI0 ?_
  | with_reducible refine w_rU ?_
  | with_reducible refine w_test ?_
  | with_reducible refine w_b ?_
  | with_reducible refine w_bl ?_
  | with_reducible refine w_and ?_
  | with_reducible refine w_or ?_
  | with_reducible refine w_not ?_
  | with_reducible refine w_andV ?_
  | with_reducible refine w_orV ?_
  | with_reducible refine w_notV ?_
  | with_reducible refine w_if ?_
  | with_reducible refine w_chain ?_
  | with_reducible refine w_eqI ?_
  | with_reducible refine w_neI ?_
  | with_reducible refine w_eqS ?_
  | with_reducible refine w_neS ?_
  | with_reducible refine w_pcons ?_
  | with_reducible refine w_pnil ?_
  | with_reducible refine w_dget ?_
  | with_reducible refine w_dget2 ?_
  | with_reducible refine w_dput ?_
  | with_reducible refine w_neB ?_
  | with_reducible refine w_eqB ?_
  | with_reducible refine w_isNb ?_
  | with_reducible refine w_isNs ?_
  | with_reducible refine w_min ?_
  | with_reducible refine w_max ?_
  | with_reducible refine w_isNn ?_
  | with_reducible refine w_isNi ?_
  | with_reducible refine w_isNr ?_
  | with_reducible refine w_notNn ?_
  | with_reducible refine w_notNi ?_
  | with_reducible refine w_notNr ?_
  | with_reducible refine w_call ?_
  | with_reducible refine w_cb ?_
  | with_reducible refine w_meth ?_
  | with_reducible refine w_make ?_
  | with_reducible refine w_tup ?_
  | with_reducible refine w_lst ?_
  | with_reducible refine w_int1b ?_
  | with_reducible refine w_int1 ?_
  | with_reducible refine w_gNil ?_
  | with_reducible refine w_gCons ?_
  | with_reducible refine w_gSub ?_
  | with_reducible refine w_bm ?_
  | with_reducible refine w_sl ?_
  | with_reducible refine w_part ?_
  | with_reducible refine w_partI ?_
  | with_reducible refine w_noPart ?_
  | with_reducible refine w_for ?_
  | with_reducible refine w_lc ?_
  | with_reducible refine w_rng1 ?_
  | with_reducible refine w_iList ?_
  | with_reducible refine w_iTup ?_
  | with_reducible refine w_break ?_
  | with_reducible refine w_cont ?_
  | ((with_reducible refine' w_var ?h ?_); (case h => exact rfl))
  | ((with_reducible refine' w_gName ?h ?_); (case h => (simp only [wipe, List.set]; rfl)))
  | ((with_reducible refine' w_par2 ?h ?_); (case h => (simp only [wipe, List.set]; rfl)))
  | ((with_reducible refine' w_mod ?h ?_); (case h => omega))
  | ((with_reducible refine' w_mul ?h ?_); (case h => omega))
  | ((with_reducible refine' w_rng1I ?h ?_); (case h => omega))
  | with_reducible refine iteT ?_
  | with_reducible refine iteF ?_
  | ((with_reducible refine' iteDT ?h ?_); (case h => omega))
  | ((with_reducible refine' iteDF ?h ?_); (case h => omega))
  | ((with_reducible refine' iteNT ?h ?_); (case h => omega))
  | ((with_reducible refine' iteNF ?h ?_); (case h => omega))
  | ((with_reducible refine' iteDT ?h ?_); (case h => decide +kernel))
  | ((with_reducible refine' iteDF ?h ?_); (case h => decide +kernel))
  | ((with_reducible refine' iteNT ?h ?_); (case h => decide +kernel))
  | ((with_reducible refine' iteNF ?h ?_); (case h => decide +kernel))
  | fail "stop")
local macro_rules | `(tactic| walk_at "st") => `(tactic| (walk_at "s1"; repeat' walk_at "s1"))
/-! ### the law -/
theorem pt_lw : ∀ p : Pt, lwD 1000000 (ptD p)
  | .num n => ⟨by show 2 ≤ 1000000; decide, trivial, trivial, trivial⟩
  | .name n => ⟨by show 2 ≤ 1000000; decide, trivial, trivial, trivial⟩
  | .cell n => ⟨by show 2 ≤ 1000000; decide, trivial, trivial, trivial⟩
  | .two o a b => ⟨by show 3 ≤ 1000000; decide, trivial, pt_lw a, pt_lw b, trivial⟩
theorem pts_lw : ∀ l : List Pt, lwAll 1000000 (ptsD l)
  | [] => trivial
  | p :: r => ⟨pt_lw p, pts_lw r⟩
theorem ptsD_len : ∀ l : List Pt, (ptsD l).length = l.length
  | [] => rfl
  | p :: r => congrArg (· + 1) (ptsD_len r)
theorem ddsD_len : ∀ l : List Dd, (ddsD l).length ≤ szDs l
  | [] => Nat.le_refl _
  | d :: r => by
    have := ddsD_len r
    have := szDd_pos d
    show (ddsD r).length + 1 ≤ d.sz + szDs r
    omega
mutual
theorem dd_lw : ∀ d : Dd, d.sz ≤ 1000 → lwD 1000000 (ddD d)
  | .set k x, _ => ⟨by show 3 ≤ 1000000; decide, trivial, trivial, pt_lw x, trivial⟩
  | .put k x, _ => ⟨by show 3 ≤ 1000000; decide, trivial, trivial, pt_lw x, trivial⟩
  | .say x, _ => ⟨by show 2 ≤ 1000000; decide, trivial, pt_lw x, trivial⟩
  | .iff x b c, h => by
    have h : 1 + x.sz + szDs b + szDs c ≤ 1000 := h
    have := ddsD_len b
    have := ddsD_len c
    exact ⟨by show 4 ≤ 1000000; decide, trivial, pt_lw x, ⟨by omega, dds_lw b (by omega)⟩, ⟨by omega, dds_lw c (by omega)⟩, trivial⟩
  | .again x b, h => by
    have h : 1 + x.sz + szDs b ≤ 1000 := h
    have := ddsD_len b
    exact ⟨by show 3 ≤ 1000000; decide, trivial, pt_lw x, ⟨by omega, dds_lw b (by omega)⟩, trivial⟩
  | .call f xs k, h => by
    have h : 1 + szPs xs ≤ 1000 := h
    have := szPs_len xs
    exact ⟨by show 4 ≤ 1000000; decide, trivial, trivial, ⟨by rw [ptsD_len]; omega, pts_lw xs⟩, trivial, trivial⟩
  | .ret x, _ => ⟨by show 2 ≤ 1000000; decide, trivial, pt_lw x, trivial⟩
theorem dds_lw : ∀ b : List Dd, szDs b ≤ 1000 → lwAll 1000000 (ddsD b)
  | [], _ => trivial
  | d :: r, h => by
    have h : d.sz + szDs r ≤ 1000 := h
    exact ⟨dd_lw d (by omega), dds_lw r (by omega)⟩
end
theorem fns_lw : ∀ b : List Fn, (b.map fun f => szDs f.body).sum ≤ 1000 → lwAll 1000000 (fnsD b)
  | [], _ => trivial
  | f :: r, h => by
    have h : szDs f.body + (r.map fun f => szDs f.body).sum ≤ 1000 := h
    have := ddsD_len f.body
    exact ⟨⟨by show 3 ≤ 1000000; decide, trivial, trivial, ⟨by omega, dds_lw f.body (by omega)⟩, trivial⟩, fns_lw r (by omega)⟩
theorem fnsD_len : ∀ l : List Fn, (fnsD l).length = l.length
  | [] => rfl
  | p :: r => congrArg (· + 1) (fnsD_len r)
theorem intsD_tup {n : Nat} {xs : List Int} (h : xs.length ≤ n) : lwD n (.tuple (intsD xs)) := ⟨by rw [intsD, List.length_map]; exact h, lwAll_of fun d hd => by obtain ⟨i, _, rfl⟩ := List.mem_map.mp hd; trivial⟩
theorem prog_lw {p : Prog} (W : p.Wf) : lwD 1000000 (progD p) := by
  have w1 := W.cells8
  have w2 := W.hands3
  have w4 := W.funs4
  have w5 := W.size
  exact ⟨by show 3 ≤ 1000000; decide, intsD_tup (by omega), ⟨by rw [fnsD_len]; omega, fns_lw p.funs (by omega)⟩, intsD_tup (by rw [List.length_map]; omega), trivial⟩
def sp_law (K : PySem.W.Frag) (w : World) : Sp := fun vs H Q _ => ∃ (a : Addr) (ns : List Int), vs = [.ref a] ∧ SqF K H a (ns.map V.int) ∧ ∀ H', Q (.bl true) H'
abbrev n_f_law : List Str := ["_law_script", "_law_d", "_law_turn", "_law_program_here", "_law_cells", "_law_funs", "_law_hands", "_law_words_here", "_law_number", "_law_params", "_law_names", "_law_body_here", "_law_deed", "_law_text", "_law_fun"]
def t_f_law (K : PySem.W.Frag) (w : World)  : TS :=
 (tSeq (tAsg (tCall (sp_law_dice K w) [] E0 (tCons (tVar 0) tNil)) (gName 1))
 (tSeq (tFor (iRng1 (tCons (tC (.int 6)) tNil)) (gName 2) (tSeq (tAsg (tCall (sp_law_program K w) [] E0 (tCons (tVar 1) tNil)) (gName 3))
 (tSeq (tAsg (tVar 3) (gTup K 3 (gCons (gName 4) (gCons (gName 5) (gCons (gName 6) gNil)))))
 (tSeq (tAsg (tOp rCat (tLst (tCons (tC (.str "cells")) (tCons (tCB rStrInt (tCons (tCB (rLenS' K) (tCons (tVar 4) tNil)) tNil)) tNil))) (tLc (iTup K (tVar 4)) (gName 8) tYes (tCB rStrInt (tCons (tVar 8) tNil)) [8])) (gName 7))
 (tSeq (tFor (iTup K (tVar 5)) (gTup K 3 (gCons (gName 9) (gCons (gName 10) (gCons (gName 11) gNil)))) (tSeq (tAsg (tOp rCat (tVar 7) (tLst (tCons (tC (.str "fun")) (tCons (tCB rStrInt (tCons (tVar 9) tNil)) (tCons (tCB rStrInt (tCons (tVar 10) tNil)) tNil))))) (gName 7))
 (tSeq (tFor (iTup K (tVar 11)) (gName 12) (tAsg (tOp rCat (tVar 7) (tCall (sp_law_words 9 K w) [] E0 (tCons (tVar 12) tNil))) (gName 7)))
 (tDrop (tBM K "list" rAppend (tVar 7) (tCons (tC (.str "end")) tNil))))))
 (tSeq (tAsg (tBM K "str" (rJoinS K) (tC (.str " ")) (tCons (tOp rCat (tOp rCat (tVar 7) (tLst (tCons (tC (.str "hands")) (tCons (tCB rStrInt (tCons (tCB (rLenS' K) (tCons (tVar 6) tNil)) tNil)) tNil)))) (tLc (iTup K (tVar 6)) (gName 14) tYes (tCB rStrInt (tCons (tVar 14) tNil)) [14])) tNil)) (gName 13))
 (tIfS (tOr (tNot (tB (tCall (sp_law_like 30 K w) [] E0 (tCons (tCall (sp_written K w) [] E0 (tCons (tVar 3) tNil)) (tCons (tVar 13) tNil))))) (tNot (tB (tCall (sp_law_like 30 K w) [] E0 (tCons (tCall (sp_read K w) [] E0 (tCons (tVar 13) tNil)) (tCons (tVar 3) tNil)))))) (tRet (tC (.bl false))) tNext)))))))
 (tRet (tC (.bl true)))))
theorem st_f_law {x0 : V} : start n_f_law [x0] = [some x0, none, none, none, none, none, none, none, none, none, none, none, none, none, none] := rfl
theorem pu_f_law {K : PySem.W.Frag} {w : World} (vs : List V) (H : Hp) (Q : VK) (E : XK) (h : sp_law K w vs H Q E) : t_f_law K w { nx := fun _ H' => Q .non H', rt := Q } (start n_f_law vs) H := by
  obtain ⟨a, ns, rfl, hs, q⟩ := h
  rw [st_f_law]
  unfold t_f_law
  walk_at "st"
  refine use_dice Sep.nil hs fun d H1 i1 h1 => ?_
  walk_at "st"
  refine k_forR (n := (6 : Int).toNat) (fun i σ H => ∃ x2 x3 x4 x5 x6 x7 x8 x9 x10 x11 x12 x13 x14, σ = [some (.ref a), some (.ref d), x2, x3, x4, x5, x6, x7, x8, x9, x10, x11, x12, x13, x14] ∧ Sep H [diceA K a d ns])
    ⟨_, _, _, _, _, _, _, _, _, _, _, _, _, rfl, h1⟩ (fun i σ H hi hP => ?_) fun σ H hP => ?_
  · obtain ⟨x2, x3, x4, x5, x6, x7, x8, x9, x10, x11, x12, x13, x14, rfl, h2⟩ := hP
    clear h1
    walk_at "st"
    refine use_program h2 fun vp p H3 i3 h3 f3 W => ?_
    obtain ⟨pa, pc, pf, ph, fs, rfl, g1, g2, g3, g4, g5⟩ := id f3
    have w1 := W.cells8
    have w2 := W.hands3
    have w4 := W.funs4
    have w5 := W.size
    have w6 := funsW_len p.funs
    have hp : p.params.length ≤ 10007 := by show (p.funs.map _).length ≤ 10007; rw [List.length_map]; omega
    walk_at "st"
    refine w_gTup g1 rfl ?_
    walk_at "st"
    refine w_lenT g2 ?_
    walk_at "st"
    rw [List.length_map]
    refine w_strI (by omega) (by omega) ?_
    walk_at "st"
    refine k_lst h3 fun l1 H4 i4 h4 => ?_
    walk_at "st"
    refine w_itt (i4.t g2) ?_
    refine k_lcT (xs := p.cells.map V.int) h4 (fun D i H => ∃ ws : List Str, Imm H4 H ∧ Sep H (cellA D (.lst (ws.map V.str)) :: cellA l1 (.lst [V.str "cells", V.str (nW (p.cells.length : Nat))]) :: [diceA K a d ns]) ∧ ws = (p.cells.take i).map nW)
      (fun D H i h => ⟨[], i, h, rfl⟩) (fun D i H _ hP => by obtain ⟨_, i, _⟩ := hP; exact (i4.trans i).t g2) (fun D i x H5 hi hx hP => ?_) fun D H5 hP => ?_
    · obtain ⟨ws, i5, h5, hws⟩ := hP
      rw [List.length_map] at hi
      rw [List.getElem?_map] at hx
      have ec : p.cells[i]? = some p.cells[i] := List.getElem?_eq_getElem hi
      have hr := W.cellsR _ (List.getElem_mem hi)
      rw [ec] at hx
      obtain rfl := Option.some.inj hx
      generalize p.cells[i] = cc at ec hr
      refine k_lcB ?_
      walk_at "st"
      refine w_yes rfl ?_
      walk_at "st"
      refine w_strI hr.1 hr.2 ?_
      refine k_acc h5.cell (by rw [hws]; simp only [List.length_map, List.length_take]; omega) ⟨ws ++ [nW cc], i5.trans (h5.imm rfl), ?_, ?_⟩
      · rw [List.map_append]; exact h5.set rfl
      · rw [hws, take_snoc ec, List.map_append]; rfl
    obtain ⟨ws, i5, h5, hws⟩ := hP
    rw [List.length_map, List.take_length] at hws
    subst hws
    refine w_cat h5 (h5.pull 1 rfl).cell h5.cell (small (by simp only [List.length_map, List.length_cons, List.length_nil]; omega)) fun l2 H6 i6 h6 => ?_
    have h6 : Sep H6 (cellA l2 (.lst ((cellsW p ++ funsW (p.funs.take 0)).map V.str)) :: [diceA K a d ns]) := by
      have e : (cellsW p ++ funsW (p.funs.take 0)).map V.str = [V.str "cells", .str (nW (p.cells.length : Nat))] ++ (p.cells.map nW).map V.str := by
        show (cellsW p ++ []).map V.str = _
        rw [List.append_nil]; unfold cellsW; rw [List.map_append]; rfl
      rw [e]
      have h7 : Sep H6 (cellA l2 (.lst ([V.str "cells", .str (nW (p.cells.length : Nat))] ++ (p.cells.map nW).map V.str)) :: cellA D (.lst ((p.cells.map nW).map V.str)) :: cellA l1 (.lst [V.str "cells", V.str (nW (p.cells.length : Nat))]) :: [diceA K a d ns]) := h6
      exact (h7.sel 3 [1, 2, 0]).tail.tail
    have i06 := i4.trans (i5.trans i6)
    have c1 : (cellsW p).length ≤ 10 := by unfold cellsW; simp only [List.length_append, List.length_map, List.length_cons, List.length_nil]; omega
    walk_at "st"
    refine w_itt (i06.t g3) ?_
    refine k_forT (xs := fs) (fun j σ H => ∃ l x8 x9 x10 x11 x12 x13 x14, σ = [some (.ref a), some (.ref d), some (.int (i : Nat)), some (.ref pa), some (.ref pc), some (.ref pf), some (.ref ph), some (.ref l), x8, x9, x10, x11, x12, x13, x14] ∧ Imm H6 H ∧ Sep H (cellA l (.lst ((cellsW p ++ funsW (p.funs.take j)).map V.str)) :: [diceA K a d ns]))
      ⟨_, _, _, _, _, _, _, _, rfl, .refl _, h6⟩ (fun j σ H _ hP => by obtain ⟨_, _, _, _, _, _, _, _, _, im, _⟩ := hP; exact (i06.trans im).t g3) (fun j u σ H7 hj hu hP => ?_) fun σ H7 hP => ?_
    · obtain ⟨l, x8, x9, x10, x11, x12, x13, x14, rfl, i7, h7⟩ := hP
      obtain ⟨f, ef, fa, vb, rfl, k1, va, vs, rfl, k3, k4⟩ := (g4.mono (i06.trans i7)).get hu
      have hf := List.mem_of_getElem? ef
      have n1 := W.names f hf
      have n2 := W.bodies f hf
      have n3 := W.deep f hf
      have n4 := sz_mem0 hf
      have b1 := ddsW_len f.body
      have b2 := funsW_len (p.funs.take j)
      have b3 : ((p.funs.take j).map fun f => szDs f.body).sum ≤ (p.funs.map fun f => szDs f.body).sum := by
        have e : (p.funs.map fun f => szDs f.body) = ((p.funs.take j).map fun f => szDs f.body) ++ ((p.funs.drop j).map fun f => szDs f.body) := by rw [← List.map_append, List.take_append_drop]
        rw [e, List.sum_append]; exact Nat.le_add_right _ _
      have b4 : (p.funs.take j).length ≤ 4 := by rw [List.length_take]; omega
      refine w_gTup k1 rfl ?_
      walk_at "st"
      refine w_strI (by omega) (by omega) ?_
      walk_at "st"
      refine w_strI (by omega) (by omega) ?_
      walk_at "st"
      refine k_lst h7 fun l3 H8 i8 h8 => ?_
      refine w_cat h8 (h8.pull 1 rfl).cell h8.cell (small (by simp only [List.length_map, List.length_append, List.length_cons, List.length_nil]; omega)) fun l4 H9 i9 h9 => ?_
      have h9 : Sep H9 (cellA l4 (.lst ((cellsW p ++ funsW (p.funs.take j) ++ [("fun" : Str), nW (f.params : Nat), nW (f.names : Nat)] ++ ddsW (f.body.take 0)).map V.str)) :: [diceA K a d ns]) := by
        have e : (cellsW p ++ funsW (p.funs.take j) ++ [("fun" : Str), nW (f.params : Nat), nW (f.names : Nat)] ++ ddsW (f.body.take 0)).map V.str = (cellsW p ++ funsW (p.funs.take j)).map V.str ++ [V.str "fun", .str (nW (f.params : Nat)), .str (nW (f.names : Nat))] := by
          show (cellsW p ++ funsW (p.funs.take j) ++ [("fun" : Str), nW (f.params : Nat), nW (f.names : Nat)] ++ []).map V.str = _
          rw [List.append_nil, List.map_append]; rfl
        rw [e]
        have h10 : Sep H9 (cellA l4 (.lst ((cellsW p ++ funsW (p.funs.take j)).map V.str ++ [V.str "fun", .str (nW (f.params : Nat)), .str (nW (f.names : Nat))])) :: cellA l3 (.lst [V.str "fun", .str (nW (f.params : Nat)), .str (nW (f.names : Nat))]) :: cellA l (.lst ((cellsW p ++ funsW (p.funs.take j)).map V.str)) :: [diceA K a d ns]) := h9
        exact (h10.sel 3 [1, 2, 0]).tail.tail
      have i79 := i8.trans i9
      walk_at "st"
      refine w_itt (i79.t k3) ?_
      have hfun : funsW (p.funs.take (j + 1)) = funsW (p.funs.take j) ++ ([("fun" : Str), nW (f.params : Nat), nW (f.names : Nat)] ++ (ddsW f.body ++ endW)) := by rw [take_snoc ef, funsW_snoc]; rfl
      generalize hW1 : cellsW p ++ funsW (p.funs.take j) ++ [("fun" : Str), nW (f.params : Nat), nW (f.names : Nat)] = W1 at h9
      have hWl : W1.length ≤ 500 := by rw [← hW1]; simp only [List.length_append, List.length_cons, List.length_nil]; omega
      have hkl := k4.len
      refine k_forT (xs := vs) (fun m σ H => ∃ l x12 x13 x14, σ = [some (.ref a), some (.ref d), some (.int (i : Nat)), some (.ref pa), some (.ref pc), some (.ref pf), some (.ref ph), some (.ref l), x8, some (.int (f.params : Nat)), some (.int (f.names : Nat)), some (.ref va), x12, x13, x14] ∧ Imm H9 H ∧ Sep H (cellA l (.lst ((W1 ++ ddsW (f.body.take m)).map V.str)) :: [diceA K a d ns]))
        ⟨_, _, _, _, rfl, .refl _, h9⟩ (fun m σ H _ hP => by obtain ⟨_, _, _, _, _, im, _⟩ := hP; exact (i79.trans im).t k3) (fun m u2 σ H10 hm hu2 hP => ?_) fun σ H10 hP => ?_
      · obtain ⟨l, x12, x13, x14, rfl, i10, h10⟩ := hP
        obtain ⟨dd, ed, hdd⟩ := k4.get hu2
        have v1 := wfDs_get n2 ed
        have v2 := dpDs_get ed
        have v3 := szDs_le1 ed
        have e1 := ddsW_len (f.body.take m)
        have e2 := ddW_len dd
        walk_at "st"
        refine ⟨u2, .dd dd, f.names, p.cells.length, p.params, _, rfl, by show dd.dp ≤ 9; omega, by show dd.dp ≤ 8; omega, hdd.mono (i79.trans i10), ⟨v1, by omega⟩, by omega, by omega, hp, h10, fun H11 l8 i11 h11 => ?_⟩
        refine w_cat h11 (h11.pull 1 rfl).cell h11.cell (small (by simp only [List.length_map, List.length_append]; show _ + (ddW dd).length ≤ 1000; omega)) fun l9 H12 i12 h12 => ?_
        walk_at "st"
        have h13 : Sep H12 (cellA l9 (.lst ((W1 ++ ddsW (f.body.take m)).map V.str ++ (ddW dd).map V.str)) :: cellA l8 (.lst ((ddW dd).map V.str)) :: cellA l (.lst ((W1 ++ ddsW (f.body.take m)).map V.str)) :: [diceA K a d ns]) := h12
        refine ⟨_, _, _, _, rfl, i10.trans (i11.trans i12), ?_⟩
        rw [take_snoc ed, ddsW_snoc, ← List.append_assoc, List.map_append]
        exact (h13.sel 3 [1, 2, 0]).tail.tail
      · obtain ⟨l, x12, x13, x14, rfl, i10, h10⟩ := hP
        rw [hkl, List.take_length] at h10
        walk_at "st"
        refine w_tyL (SqL.of h10.cell) ?_
        walk_at "st"
        refine w_append h10.cell (by rw [List.length_map, List.length_append]; omega) ?_
        refine ⟨_, _, _, _, _, _, _, _, rfl, i7.trans (i79.trans (i10.trans (h10.imm rfl))), ?_⟩
        have e4 : (cellsW p ++ funsW (p.funs.take (j + 1))).map V.str = (W1 ++ ddsW f.body).map V.str ++ [V.str "end"] := by
          rw [hfun, ← hW1]
          simp only [List.map_append, List.append_assoc]
          rfl
        rw [e4]
        exact h10.set rfl
    · obtain ⟨l, x8, x9, x10, x11, x12, x13, x14, rfl, i7, h7⟩ := hP
      have hfl : p.funs.take fs.length = p.funs := by rw [g4.len, List.take_length]
      rw [hfl] at h7
      walk_at "st"
      refine w_tyS ?_
      walk_at "st"
      refine w_lenT ((i06.trans i7).t g5) ?_
      walk_at "st"
      rw [List.length_map]
      refine w_strI (by omega) (by omega) ?_
      walk_at "st"
      refine k_lst h7 fun l3 H8 i8 h8 => ?_
      refine w_cat h8 (h8.pull 1 rfl).cell h8.cell (small (by simp only [List.length_map, List.length_append, List.length_cons, List.length_nil]; omega)) fun l4 H9 i9 h9 => ?_
      walk_at "st"
      have h9 : Sep H9 (cellA l4 (.lst ((cellsW p ++ funsW p.funs).map V.str ++ [V.str "hands", V.str (nW (p.hands.length : Nat))])) :: [diceA K a d ns]) := by
        have e : Sep H9 (cellA l3 (.lst [V.str "hands", V.str (nW (p.hands.length : Nat))]) :: cellA l (.lst ((cellsW p ++ funsW p.funs).map V.str)) :: cellA l4 (.lst ((cellsW p ++ funsW p.funs).map V.str ++ [V.str "hands", V.str (nW (p.hands.length : Nat))])) :: [diceA K a d ns]) := h9.sel 3 [1, 2, 0]
        exact e.tail.tail
      have i09 := i06.trans (i7.trans (i8.trans i9))
      refine w_itt (i09.t g5) ?_
      refine k_lcT (xs := p.hands.map fun n => V.int (n : Nat)) h9 (fun D i H => ∃ ws : List Str, Imm H9 H ∧ Sep H (cellA D (.lst (ws.map V.str)) :: cellA l4 (.lst ((cellsW p ++ funsW p.funs).map V.str ++ [V.str "hands", V.str (nW (p.hands.length : Nat))])) :: [diceA K a d ns]) ∧ ws = (p.hands.take i).map fun n => nW (n : Nat))
        (fun D H i h => ⟨[], i, h, rfl⟩) (fun D i H _ hP => by obtain ⟨_, i, _⟩ := hP; exact (i09.trans i).t g5) (fun D k x H10 hk hx hP => ?_) fun D H10 hP => ?_
      · obtain ⟨ws, i10, h10, hws⟩ := hP
        rw [List.length_map] at hk
        rw [List.getElem?_map] at hx
        have ec : p.hands[k]? = some p.hands[k] := List.getElem?_eq_getElem hk
        have hr := handsR_lt W (List.getElem_mem hk)
        rw [ec] at hx
        obtain rfl := Option.some.inj hx
        generalize p.hands[k] = cc at ec hr
        refine k_lcB ?_
        walk_at "st"
        refine w_yes rfl ?_
        walk_at "st"
        refine w_strI (by omega) (by omega) ?_
        refine k_acc h10.cell (by rw [hws]; simp only [List.length_map, List.length_take]; omega) ⟨ws ++ [nW (cc : Nat)], i10.trans (h10.imm rfl), ?_, ?_⟩
        · rw [List.map_append]; exact h10.set rfl
        · rw [hws, take_snoc ec, List.map_append]; rfl
      · obtain ⟨ws, i10, h10, hws⟩ := hP
        rw [List.length_map, List.take_length] at hws
        subst hws
        refine w_cat h10 (h10.pull 1 rfl).cell h10.cell (small (by simp only [List.length_map, List.length_append, List.length_cons, List.length_nil]; omega)) fun l5 H11 i11 h11 => ?_
        walk_at "st"
        have e5 : (cellsW p ++ funsW p.funs).map V.str ++ [V.str "hands", V.str (nW (p.hands.length : Nat))] ++ (p.hands.map fun n => nW (n : Nat)).map V.str = (progW p).map V.str := by
          unfold progW handsW
          simp only [List.map_append, List.append_assoc]
          rfl
        rw [e5] at h11
        have h12 := h11.sel 3 [1, 2, 0]
        have h13 : Sep H11 (cellA l5 (.lst ((progW p).map V.str)) :: [diceA K a d ns]) := h12.tail.tail
        refine ⟨_, l5, progW p, rfl, rfl, .inl (SqL.of h13.cell), join_small W, ?_⟩
        walk_at "st"
        have f11 := f3.mono (i06.trans (i7.trans (i8.trans (i9.trans (i10.trans i11)))))
        refine ⟨_, p, _, rfl, f11, W, h13, fun H12 i12 h14 => ?_⟩
        walk_at "st"
        refine ⟨_, _, .str (textOf p), rfl, by show 0 < 30; decide, trivial, .str _, .str _, ?_⟩
        walk_at "st"
        refine ⟨p, _, rfl, W, h14, fun H13 v i13 f13 h15 => ?_⟩
        walk_at "st"
        have hfl := prog_flat W
        refine ⟨_, _, progD p, rfl, by have := hfl.2; omega, prog_lw W, prog_dp f13, prog_dp (f11.mono (i12.trans i13)), ?_⟩
        walk_at "st"
        exact ⟨_, _, _, _, _, _, _, _, _, _, _, _, _, rfl, h15.tail⟩
  · obtain ⟨x2, x3, x4, x5, x6, x7, x8, x9, x10, x11, x12, x13, x14, rfl, h2⟩ := hP
    walk_at "st"
    exact q _
end SD
set_option Elab.async false
set_option linter.all false
set_option maxRecDepth 100000
set_option maxHeartbeats 4000000
namespace SD
open PySem PySem.Spec PyProof.Rows L2
open C8 (Cal Met Mak pe_c pe_mk pe_mt pe_mt0 pe_gc)
open Hd
structure Gx (K : PySem.W.Frag) (mg : Str → Option Value) : Prop where
  c_REST : ∃ u, mg "REST" = some u ∧ RelV (.int 10007) u
  c_MOST_CELLS : ∃ u, mg "MOST_CELLS" = some u ∧ RelV (.int 8) u
  c_MOST_FUNS : ∃ u, mg "MOST_FUNS" = some u ∧ RelV (.int 4) u
  c_MOST_HANDS : ∃ u, mg "MOST_HANDS" = some u ∧ RelV (.int 3) u
  c_MOST_NAMES : ∃ u, mg "MOST_NAMES" = some u ∧ RelV (.int 4) u
  c_MOST_THINGS : ∃ u, mg "MOST_THINGS" = some u ∧ RelV (.int 100) u
  c_MOST_DEEP : ∃ u, mg "MOST_DEEP" = some u ∧ RelV (.int 8) u
  c_PARTS : ∃ u, mg "PARTS" = some u ∧ RelV (.ref (He.ga K "PARTS")) u
  c_TWO : ∃ u, mg "TWO" = some u ∧ RelV (.ref (He.ga K "TWO")) u
  c_DEEDS : ∃ u, mg "DEEDS" = some u ∧ RelV (.ref (He.ga K "DEEDS")) u
  c_FIGURES : ∃ u, mg "FIGURES" = some u ∧ RelV (.str "0123456789") u
  c_MOST_FIGURES : ∃ u, mg "MOST_FIGURES" = some u ∧ RelV (.int 5) u
  c_NAME : ∃ u, mg "NAME" = some u ∧ RelV (.str "n") u
  c_CELL : ∃ u, mg "CELL" = some u ∧ RelV (.str "c") u
  c_CLOSE : ∃ u, mg "CLOSE" = some u ∧ RelV (.str "end") u
  c_CELLS : ∃ u, mg "CELLS" = some u ∧ RelV (.str "cells") u
  c_FUN : ∃ u, mg "FUN" = some u ∧ RelV (.str "fun") u
  c_HANDS : ∃ u, mg "HANDS" = some u ∧ RelV (.str "hands") u
  n_len : mg "len" = none
  n_zip : mg "zip" = none
  n_isinstance : mg "isinstance" = none
  n_range : mg "range" = none
  n_enumerate : mg "enumerate" = none
  n_int : mg "int" = none
  n_list : mg "list" = none
  n_sorted : mg "sorted" = none
  n_tuple : mg "tuple" = none
  n_str : mg "str" = none
  n_bool : mg "bool" = none
  n_sum : mg "sum" = none
  n_max : mg "max" = none
  n_min : mg "min" = none
theorem sc_f_is_number : FnScope n_f_is_number ["thing"] (defScope s_f_is_number) := ⟨rfl, rfl, rfl, by decide +kernel, rfl, by decide +kernel, by decide +kernel⟩
theorem der_f_is_number {P : Program} {w : World} {K : PySem.W.Frag} {mg : Str → Option Value} {base : Heap} {j : Nat}  (F : Fcts K) (G : Gx K mg)  {f : Addr} {cdv : Value} {A : Around} {outer : List Env} {s : Shared} {H : Hp} {E : XK} (hr : Room j (A.deeper (envOfC "is_number" (defScope s_f_is_number) s.heap.objs.size f cdv))) :
    PSs (cxOf CX0 P w K mg base n_f_is_number "is_number" (defScope s_f_is_number) f cdv A outer s H E).nox (defBody s_f_is_number) (t_f_is_number K w ) :=
 (pss_one (ps_ret (pe_and (pe_callB call_isi' (by rfl) G.n_isinstance (by decide +kernel) (pa_cons (pv 0) (pa_cons (pe_bltn (by rfl) G.n_int boot_int rfl) pa_nil))) (pe_one (pe_not (pe_callB call_isi' (by rfl) G.n_isinstance (by decide +kernel) (pa_cons (pv 0) (pa_cons (pe_bltn (by rfl) G.n_bool boot_bool rfl) pa_nil))))))))
theorem sc_m_Looker_init : FnScope n_m_Looker_init ["self", "many", "params"] (defScope s_m_Looker_init) := ⟨rfl, rfl, rfl, by decide +kernel, rfl, by decide +kernel, by decide +kernel⟩
theorem der_m_Looker_init {P : Program} {w : World} {K : PySem.W.Frag} {mg : Str → Option Value} {base : Heap} {j : Nat}  (F : Fcts K) (G : Gx K mg)  {f : Addr} {cdv : Value} {A : Around} {outer : List Env} {s : Shared} {H : Hp} {E : XK} (hr : Room j (A.deeper (envOfC "Looker.__init__" (defScope s_m_Looker_init) s.heap.objs.size f cdv))) :
    PSs (cxOf CX0 P w K mg base n_m_Looker_init "Looker.__init__" (defScope s_m_Looker_init) f cdv A outer s H E).nox (defBody s_m_Looker_init) (t_m_Looker_init K w ) :=
 (pss_cons (ps_fld (pv 0) (pv 1) rfl)
 (pss_cons (ps_fld (pv 0) (pv 2) rfl)
 (pss_cons (ps_fld (pv 0) pe_int rfl)
 (pss_one (ps_fld (pv 0) pe_int rfl)))))
theorem sc_m_Looker_begin : FnScope n_m_Looker_begin ["self", "thing", "is_deed", "deep"] (defScope s_m_Looker_begin) := ⟨rfl, rfl, rfl, by decide +kernel, rfl, by decide +kernel, by decide +kernel⟩
theorem der_m_Looker_begin {P : Program} {w : World} {K : PySem.W.Frag} {mg : Str → Option Value} {base : Heap} {j : Nat}  (F : Fcts K) (G : Gx K mg) (c_is_number : Cal P w K mg base j "is_number" (sp_is_number K w) []) (c_Looker_bounds : Met P w K mg base j (He.ga K "Looker") "bounds" (sp_Looker_bounds K w) []) {f : Addr} {cdv : Value} {A : Around} {outer : List Env} {s : Shared} {H : Hp} {E : XK} (hr : Room j (A.deeper (envOfC "Looker.begin" (defScope s_m_Looker_begin) s.heap.objs.size f cdv))) :
    PSs (cxOf CX0 P w K mg base n_m_Looker_begin "Looker.begin" (defScope s_m_Looker_begin) f cdv A outer s H E).nox (defBody s_m_Looker_begin) (t_m_Looker_begin K w ) :=
 (pss_cons (ps_set (i := 4) sc_m_Looker_begin.nd rfl (Or.inl rfl) (pe_xfLooker_seen F (pv 0) rfl))
 (pss_cons (ps_if (pt_cmpR op_eq (pv 4) (pe_gc rfl (G.c_MOST_THINGS)) (nomark _)) (pss_one ps_never) pss_nil)
 (pss_cons (ps_xsLooker_seen F (pv 0) (pe_op op_add (pv 4) pe_int) rfl)
 (pss_cons (ps_if (pt_cmpR op_gt (pv 3) (pe_gc rfl (G.c_MOST_DEEP)) (nomark _)) (pss_one ps_never) pss_nil)
 (pss_cons (ps_if (PW.pt (pw_or (pt_not (pt_val (pe_callB call_isi' (by rfl) G.n_isinstance (by decide +kernel) (pa_cons (pv 1) (pa_cons (pe_bltn (by rfl) G.n_tuple boot_tuple rfl) pa_nil))))) (pw_or (pt_cmpR op_eq (pe_callB call_len_seq (by rfl) G.n_len PySem.boot_len (pa_cons (pv 1) pa_nil)) pe_int (nomark _)) (pw_or1 (pt_not (pt_val (pe_callB call_isi' (by rfl) G.n_isinstance (by decide +kernel) (pa_cons (pe_ix ix_tup (pv 1) pe_int (fun _ _ => rfl)) (pa_cons (pe_bltn (by rfl) G.n_str boot_str rfl) pa_nil))))))))) (pss_one ps_never) pss_nil)
 (pss_cons (ps_set (i := 5) sc_m_Looker_begin.nd rfl (Or.inl rfl) (pe_ifExp (pt_val (pv 2)) (pe_kget (pe_gc rfl (G.c_DEEDS)) (pe_ix ix_tup (pv 1) pe_int (fun _ _ => rfl)) pe_non ⟨rfl, rfl, rfl, rfl⟩) (pe_ifExp (pt_cmpR op_in_seq (pe_ix ix_tup (pv 1) pe_int (fun _ _ => rfl)) (pe_gc rfl (G.c_TWO)) (by rfl)) pe_str (pe_kget (pe_gc rfl (G.c_PARTS)) (pe_ix ix_tup (pv 1) pe_int (fun _ _ => rfl)) pe_non ⟨rfl, rfl, rfl, rfl⟩))))
 (pss_cons (ps_if (PW.pt (pw_or (pt_cmpR op_isN (pv 5) pe_non (nomark _)) (pw_or1 (pt_cmpR op_ne (pe_callB call_len_seq (by rfl) G.n_len PySem.boot_len (pa_cons (pv 1) pa_nil)) (pe_op op_add (pe_callB call_len_str (by rfl) G.n_len PySem.boot_len (pa_cons (pv 5) pa_nil)) pe_int) (nomark _))))) (pss_one ps_never) pss_nil)
 (pss_cons (ps_for PassesOwn.never rfl (pi_zipST rfl G.n_zip (pa_cons (pv 5) (pa_cons (pe_slice sl_tup (pv 1) (po_some pe_int) po_none) pa_nil))) (pg_tup rfl (pgs_cons (pg_name (i := 6) sc_m_Looker_begin.nd rfl (Or.inl rfl)) (pgs_cons (pg_name (i := 7) sc_m_Looker_begin.nd rfl (Or.inl rfl)) pgs_nil))) (pss_one (ps_if (PW.pt (pw_or (PW.pt (pw_and (pt_cmpR op_in_sign (pv 6) pe_str rfl) (pw_and1 (pt_not (pt_val (pe_c c_is_number hr (by omega) (by rfl) (pa_cons (pv 7) pa_nil))))))) (pw_or1 (PW.pt (pw_and (pt_cmpR op_in_sign (pv 6) pe_str rfl) (pw_and1 (pt_not (pt_val (pe_callB call_isi' (by rfl) G.n_isinstance (by decide +kernel) (pa_cons (pv 7) (pa_cons (pe_bltn (by rfl) G.n_tuple boot_tuple rfl) pa_nil))))))))))) (pss_one ps_never) pss_nil)))
 (pss_cons (ps_for PassesOwn.never rfl (pi_zipST rfl G.n_zip (pa_cons (pv 5) (pa_cons (pe_slice sl_tup (pv 1) (po_some pe_int) po_none) pa_nil))) (pg_tup rfl (pgs_cons (pg_name (i := 6) sc_m_Looker_begin.nd rfl (Or.inl rfl)) (pgs_cons (pg_name (i := 7) sc_m_Looker_begin.nd rfl (Or.inl rfl)) pgs_nil))) (pss_one (ps_expr (pe_mt c_Looker_bounds hr (by omega) (pv 0) (pa_cons (pv 6) (pa_cons (pv 7) (pa_cons (pv 1) (pa_cons (pv 4) pa_nil))))))))
 (pss_one (ps_ret (pv 5))))))))))))
theorem sc_m_Looker_bounds : FnScope n_m_Looker_bounds ["self", "kind", "part", "thing", "at"] (defScope s_m_Looker_bounds) := ⟨rfl, rfl, rfl, by decide +kernel, rfl, by decide +kernel, by decide +kernel⟩
theorem der_m_Looker_bounds {P : Program} {w : World} {K : PySem.W.Frag} {mg : Str → Option Value} {base : Heap} {j : Nat}  (F : Fcts K) (G : Gx K mg)  {f : Addr} {cdv : Value} {A : Around} {outer : List Env} {s : Shared} {H : Hp} {E : XK} (hr : Room j (A.deeper (envOfC "Looker.bounds" (defScope s_m_Looker_bounds) s.heap.objs.size f cdv))) :
    PSs (cxOf CX0 P w K mg base n_m_Looker_bounds "Looker.bounds" (defScope s_m_Looker_bounds) f cdv A outer s H E).nox (defBody s_m_Looker_bounds) (t_m_Looker_bounds K w ) :=
 (pss_cons (ps_set (i := 5) sc_m_Looker_bounds.nd rfl (Or.inl rfl) (pe_dget2 (hu_of hr) (pe_disp (pps_cons pe_str (pe_gc rfl (G.c_REST)) (pps_cons pe_str (pe_xfLooker_names F (pv 0) rfl) (pps_cons pe_str (pe_xfLooker_many F (pv 0) rfl) (pps_cons pe_str (pe_callB call_len_seq (by rfl) G.n_len PySem.boot_len (pa_cons (pe_xfLooker_params F (pv 0) rfl) pa_nil)) pps_nil)))) (by rfl) (by rfl) (fun z => by cases z) (by decide)) (pv 1) pe_non ⟨rfl, rfl, rfl, rfl⟩))
 (pss_cons (ps_if (PW.pt (pw_and (pt_cmpR op_notN (pv 5) pe_non (nomark _)) (pw_and1 (pt_not (pt_chain op_le op_lt pe_int (pv 2) (pv 5)))))) (pss_one ps_never) pss_nil)
 (pss_one (ps_if (PW.pt (pw_and (pt_cmpR op_eq (pv 1) pe_str (nomark _)) (pw_and1 (pt_cmpR op_ne (pe_callB call_len_seq (by rfl) G.n_len PySem.boot_len (pa_cons (pv 2) pa_nil)) (pe_ix ix_list (pe_xfLooker_params F (pv 0) rfl) (pe_ix ix_tup (pv 3) pe_int (fun _ _ => rfl)) (fun _ _ => rfl)) (nomark _))))) (pss_one ps_never) pss_nil))))
theorem sc_m_Looker_part : FnScope n_m_Looker_part ["self", "part", "deep"] (defScope s_m_Looker_part) := ⟨rfl, rfl, rfl, by decide +kernel, rfl, by decide +kernel, by decide +kernel⟩
theorem der_m_Looker_part {P : Program} {w : World} {K : PySem.W.Frag} {mg : Str → Option Value} {base : Heap} {j : Nat} (n : Nat) (F : Fcts K) (G : Gx K mg) (c_Looker_begin : Met P w K mg base j (He.ga K "Looker") "begin" (sp_Looker_begin K w) []) (c_Looker_part : Met P w K mg base j (He.ga K "Looker") "part" (sp_Looker_part n K w) []) {f : Addr} {cdv : Value} {A : Around} {outer : List Env} {s : Shared} {H : Hp} {E : XK} (hr : Room j (A.deeper (envOfC "Looker.part" (defScope s_m_Looker_part) s.heap.objs.size f cdv))) :
    PSs (cxOf CX0 P w K mg base n_m_Looker_part "Looker.part" (defScope s_m_Looker_part) f cdv A outer s H E).nox (defBody s_m_Looker_part) (t_m_Looker_part K w n) :=
 (pss_one (ps_for PassesOwn.never rfl (pi_zipST rfl G.n_zip (pa_cons (pe_mt c_Looker_begin hr (by omega) (pv 0) (pa_cons (pv 1) (pa_cons pe_bl (pa_cons (pv 2) pa_nil)))) (pa_cons (pe_slice sl_tup (pv 1) (po_some pe_int) po_none) pa_nil))) (pg_tup rfl (pgs_cons (pg_name (i := 3) sc_m_Looker_part.nd rfl (Or.inl rfl)) (pgs_cons (pg_name (i := 4) sc_m_Looker_part.nd rfl (Or.inl rfl)) pgs_nil))) (pss_one (ps_if (pt_cmpR op_eq (pv 3) pe_str (nomark _)) (pss_one (ps_expr (pe_mt c_Looker_part hr (by omega) (pv 0) (pa_cons (pv 4) (pa_cons (pe_op op_add (pv 2) pe_int) pa_nil))))) pss_nil))))
theorem sc_m_Looker_body : FnScope n_m_Looker_body ["self", "body", "deep"] (defScope s_m_Looker_body) := ⟨rfl, rfl, rfl, by decide +kernel, rfl, by decide +kernel, by decide +kernel⟩
theorem der_m_Looker_body {P : Program} {w : World} {K : PySem.W.Frag} {mg : Str → Option Value} {base : Heap} {j : Nat} (n : Nat) (F : Fcts K) (G : Gx K mg) (c_Looker_begin : Met P w K mg base j (He.ga K "Looker") "begin" (sp_Looker_begin K w) []) (c_Looker_part : Met P w K mg base j (He.ga K "Looker") "part" (sp_Looker_part n K w) []) (c_Looker_body : Met P w K mg base j (He.ga K "Looker") "body" (sp_Looker_body n K w) []) {f : Addr} {cdv : Value} {A : Around} {outer : List Env} {s : Shared} {H : Hp} {E : XK} (hr : Room j (A.deeper (envOfC "Looker.body" (defScope s_m_Looker_body) s.heap.objs.size f cdv))) :
    PSs (cxOf CX0 P w K mg base n_m_Looker_body "Looker.body" (defScope s_m_Looker_body) f cdv A outer s H E).nox (defBody s_m_Looker_body) (t_m_Looker_body K w n) :=
 (pss_one (ps_for PassesOwn.never rfl (pi_tup (pv 1)) (pg_name (i := 3) sc_m_Looker_body.nd rfl (Or.inl rfl)) (pss_one (ps_for PassesOwn.never rfl (pi_zipST rfl G.n_zip (pa_cons (pe_mt c_Looker_begin hr (by omega) (pv 0) (pa_cons (pv 3) (pa_cons pe_bl (pa_cons (pv 2) pa_nil)))) (pa_cons (pe_slice sl_tup (pv 3) (po_some pe_int) po_none) pa_nil))) (pg_tup rfl (pgs_cons (pg_name (i := 4) sc_m_Looker_body.nd rfl (Or.inl rfl)) (pgs_cons (pg_name (i := 5) sc_m_Looker_body.nd rfl (Or.inl rfl)) pgs_nil))) (pss_one (ps_if (pt_cmpR op_eq (pv 4) pe_str (nomark _)) (pss_one (ps_expr (pe_mt c_Looker_part hr (by omega) (pv 0) (pa_cons (pv 5) (pa_cons (pe_op op_add (pv 2) pe_int) pa_nil))))) (pss_one (ps_if (pt_cmpR op_eq (pv 4) pe_str (nomark _)) (pss_one (ps_expr (pe_mt c_Looker_body hr (by omega) (pv 0) (pa_cons (pv 5) (pa_cons (pe_op op_add (pv 2) pe_int) pa_nil))))) (pss_one (ps_if (pt_cmpR op_eq (pv 4) pe_str (nomark _)) (pss_one (ps_for PassesOwn.never rfl (pi_tup (pv 5)) (pg_name (i := 6) sc_m_Looker_body.nd rfl (Or.inl rfl)) (pss_one (ps_expr (pe_mt c_Looker_part hr (by omega) (pv 0) (pa_cons (pv 6) (pa_cons (pe_op op_add (pv 2) pe_int) pa_nil))))))) pss_nil))))))))))
theorem sc_f_need_head : FnScope n_f_need_head ["program"] (defScope s_f_need_head) := ⟨rfl, rfl, rfl, by decide +kernel, rfl, by decide +kernel, by decide +kernel⟩
theorem der_f_need_head {P : Program} {w : World} {K : PySem.W.Frag} {mg : Str → Option Value} {base : Heap} {j : Nat}  (F : Fcts K) (G : Gx K mg)  {f : Addr} {cdv : Value} {A : Around} {outer : List Env} {s : Shared} {H : Hp} {E : XK} (hr : Room j (A.deeper (envOfC "need_head" (defScope s_f_need_head) s.heap.objs.size f cdv))) :
    PSs (cxOf CX0 P w K mg base n_f_need_head "need_head" (defScope s_f_need_head) f cdv A outer s H E).nox (defBody s_f_need_head) (t_f_need_head K w ) :=
 (pss_cons (ps_asg (pv 0) (pg_tup rfl (pgs_cons (pg_name (i := 1) sc_f_need_head.nd rfl (Or.inl rfl)) (pgs_cons (pg_name (i := 2) sc_f_need_head.nd rfl (Or.inl rfl)) (pgs_cons (pg_name (i := 3) sc_f_need_head.nd rfl (Or.inl rfl)) pgs_nil)))))
 (pss_cons (ps_if (PW.pt (pw_or (pt_not (pt_chain op_le op_le pe_int (pe_callB call_len_seq (by rfl) G.n_len PySem.boot_len (pa_cons (pv 1) pa_nil)) (pe_gc rfl (G.c_MOST_CELLS)))) (pw_or1 (pt_cmpR (op_neNil (hu_of hr)) (pe_lc (own := [("number", 4)]) (g := (gName 4)) (tt := (tNot (tTest (tChain (rI0 fun i j => .bl (decide (i ≤ j))) (rI0 fun i j => .bl (decide (i < j))) (tC (.int 0)) (tVar 4) (tC (.int 10007)))))) rfl sc_f_need_head.nd (pi_tup (pv 1)) (blkOk_by (own := [("number", 4)]) (N := n_f_need_head) (sc := defScope s_f_need_head) (by decide +kernel)) (fun _ _ _ _ _ => (pg_name (i := 4) sc_f_need_head.nd rfl (Or.inl rfl))) (fun _ _ _ _ _ => (pts_one (pt_not (pt_chain op_le op_lt pe_int (pv 4) (pe_gc rfl (G.c_REST)))))) (fun _ _ _ _ _ => (pv 4))) (pe_lst pa_nil) (nomark _))))) (pss_one ps_never) pss_nil)
 (pss_cons (ps_if (pt_not (pt_chain op_le op_le pe_int (pe_callB call_len_seq (by rfl) G.n_len PySem.boot_len (pa_cons (pv 2) pa_nil)) (pe_gc rfl (G.c_MOST_FUNS)))) (pss_one ps_never) pss_nil)
 (pss_cons (ps_for PassesOwn.never rfl (pi_tup (pv 2)) (pg_tup rfl (pgs_cons (pg_name (i := 5) sc_f_need_head.nd rfl (Or.inl rfl)) (pgs_cons (pg_name (i := 6) sc_f_need_head.nd rfl (Or.inl rfl)) (pgs_cons (pg_name (i := 7) sc_f_need_head.nd rfl (Or.inl rfl)) pgs_nil)))) (pss_one (ps_if (pt_not (pt_chain3 op_le op_le op_le pe_int (pv 5) (pv 6) (pe_gc rfl (G.c_MOST_NAMES)))) (pss_one ps_never) pss_nil)))
 (pss_cons (ps_if (pt_not (pt_chain op_le op_le pe_int (pe_callB call_len_seq (by rfl) G.n_len PySem.boot_len (pa_cons (pv 3) pa_nil)) (pe_gc rfl (G.c_MOST_HANDS)))) (pss_one ps_never) pss_nil)
 (pss_one (ps_for PassesOwn.never rfl (pi_tup (pv 3)) (pg_name (i := 8) sc_f_need_head.nd rfl (Or.inl rfl)) (pss_one (ps_if (PW.pt (pw_or (pt_not (pt_chain op_le op_lt pe_int (pv 8) (pe_callB call_len_seq (by rfl) G.n_len PySem.boot_len (pa_cons (pv 2) pa_nil)))) (pw_or1 (pt_cmpR op_gt (pe_ix ix_tup (pe_ix ix_tup (pv 2) (pv 8) (fun _ _ => rfl)) pe_int (fun _ _ => rfl)) pe_int (nomark _))))) (pss_one ps_never) pss_nil)))))))))
theorem sc_f_need_program : FnScope n_f_need_program ["program"] (defScope s_f_need_program) := ⟨rfl, rfl, rfl, by decide +kernel, rfl, by decide +kernel, by decide +kernel⟩
theorem der_f_need_program {P : Program} {w : World} {K : PySem.W.Frag} {mg : Str → Option Value} {base : Heap} {j : Nat}  (F : Fcts K) (G : Gx K mg) (c_need_head : Cal P w K mg base j "need_head" (sp_need_head K w) []) {jm_Looker : Nat} (hj_Looker : jm_Looker + 1 ≤ j) (c_Looker : Mak P w K mg base jm_Looker "Looker" (He.ga K "Looker") (sp_Looker_init K w) []) (c_Looker_body : Met P w K mg base j (He.ga K "Looker") "body" (sp_Looker_body 9 K w) []) {f : Addr} {cdv : Value} {A : Around} {outer : List Env} {s : Shared} {H : Hp} {E : XK} (hr : Room j (A.deeper (envOfC "need_program" (defScope s_f_need_program) s.heap.objs.size f cdv))) :
    PSs (cxOf CX0 P w K mg base n_f_need_program "need_program" (defScope s_f_need_program) f cdv A outer s H E).nox (defBody s_f_need_program) (t_f_need_program K w ) :=
 (pss_cons (ps_expr (pe_c c_need_head hr (by omega) (by rfl) (pa_cons (pv 0) pa_nil)))
 (pss_cons (ps_asg (pv 0) (pg_tup rfl (pgs_cons (pg_name (i := 1) sc_f_need_program.nd rfl (Or.inl rfl)) (pgs_cons (pg_name (i := 2) sc_f_need_program.nd rfl (Or.inl rfl)) (pgs_cons (pg_name (i := 3) sc_f_need_program.nd rfl (Or.inl rfl)) pgs_nil)))))
 (pss_cons (ps_set (i := 4) sc_f_need_program.nd rfl (Or.inl rfl) (pe_mk c_Looker hr (by omega) (by rfl) (pa_cons (pe_callB call_len_seq (by rfl) G.n_len PySem.boot_len (pa_cons (pv 1) pa_nil)) (pa_cons (pe_lc (own := [("params", 5), ("names", 6), ("body", 7)]) (g := (gTup K 3 (gCons (gName 5) (gCons (gName 6) (gCons (gName 7) gNil))))) (tt := tYes) rfl sc_f_need_program.nd (pi_tup (pv 2)) (blkOk_by (own := [("params", 5), ("names", 6), ("body", 7)]) (N := n_f_need_program) (sc := defScope s_f_need_program) (by decide +kernel)) (fun _ _ _ _ _ => (pg_tup rfl (pgs_cons (pg_name (i := 5) sc_f_need_program.nd rfl (Or.inl rfl)) (pgs_cons (pg_name (i := 6) sc_f_need_program.nd rfl (Or.inl rfl)) (pgs_cons (pg_name (i := 7) sc_f_need_program.nd rfl (Or.inl rfl)) pgs_nil))))) (fun _ _ _ _ _ => pts_nil) (fun _ _ _ _ _ => (pv 5))) pa_nil))))
 (pss_one (ps_for PassesOwn.never rfl (pi_tup (pv 2)) (pg_tup rfl (pgs_cons (pg_name (i := 5) sc_f_need_program.nd rfl (Or.inl rfl)) (pgs_cons (pg_name (i := 6) sc_f_need_program.nd rfl (Or.inl rfl)) (pgs_cons (pg_name (i := 7) sc_f_need_program.nd rfl (Or.inl rfl)) pgs_nil)))) (pss_cons (ps_xsLooker_names F (pv 4) (pv 6) rfl)
 (pss_one (ps_expr (pe_mt c_Looker_body hr (by omega) (pv 4) (pa_cons (pv 7) (pa_cons pe_int pa_nil)))))))))))
theorem sc_f_part_words : FnScope n_f_part_words ["part"] (defScope s_f_part_words) := ⟨rfl, rfl, rfl, by decide +kernel, rfl, by decide +kernel, by decide +kernel⟩
theorem der_f_part_words {P : Program} {w : World} {K : PySem.W.Frag} {mg : Str → Option Value} {base : Heap} {j : Nat} (n : Nat) (F : Fcts K) (G : Gx K mg) (c_part_words : Cal P w K mg base j "part_words" (sp_part_words n K w) []) {f : Addr} {cdv : Value} {A : Around} {outer : List Env} {s : Shared} {H : Hp} {E : XK} (hr : Room j (A.deeper (envOfC "part_words" (defScope s_f_part_words) s.heap.objs.size f cdv))) :
    PSs (cxOf CX0 P w K mg base n_f_part_words "part_words" (defScope s_f_part_words) f cdv A outer s H E).nox (defBody s_f_part_words) (t_f_part_words K w n) :=
 (pss_cons (ps_if (pt_cmpR op_inKT (pe_ix ix_tup (pv 0) pe_int (fun _ _ => rfl)) (pe_gc rfl (G.c_PARTS)) (by rfl)) (pss_one (ps_ret (pe_lst (pa_cons (pe_op op_add_str (pe_dget (hu_of hr) (pe_disp (pps_cons pe_str pe_str (pps_cons pe_str (pe_gc rfl (G.c_NAME)) (pps_cons pe_str (pe_gc rfl (G.c_CELL)) pps_nil))) (by rfl) (by rfl) (fun z => by cases z) (by decide)) (pe_ix ix_tup (pv 0) pe_int (fun _ _ => rfl)) (fun _ _ => rfl)) (pe_callTy call_str_int (by rfl) G.n_str (by decide +kernel) (pa_cons (pe_ix ix_tup (pv 0) pe_int (fun _ _ => rfl)) pa_nil))) pa_nil)))) pss_nil)
 (pss_one (ps_ret (pe_op op_cat (pe_op op_cat (pe_lst (pa_cons (pe_ix ix_tup (pv 0) pe_int (fun _ _ => rfl)) pa_nil)) (pe_c c_part_words hr (by omega) (by rfl) (pa_cons (pe_ix ix_tup (pv 0) pe_int (fun _ _ => rfl)) pa_nil))) (pe_c c_part_words hr (by omega) (by rfl) (pa_cons (pe_ix ix_tup (pv 0) pe_int (fun _ _ => rfl)) pa_nil))))))
theorem sc_f_body_words : FnScope n_f_body_words ["body"] (defScope s_f_body_words) := ⟨rfl, rfl, rfl, by decide +kernel, rfl, by decide +kernel, by decide +kernel⟩
theorem der_f_body_words {P : Program} {w : World} {K : PySem.W.Frag} {mg : Str → Option Value} {base : Heap} {j : Nat} (n : Nat) (F : Fcts K) (G : Gx K mg) (c_part_words : Cal P w K mg base j "part_words" (sp_part_words 8 K w) []) (c_body_words : Cal P w K mg base j "body_words" (sp_body_words n K w) []) {f : Addr} {cdv : Value} {A : Around} {outer : List Env} {s : Shared} {H : Hp} {E : XK} (hr : Room j (A.deeper (envOfC "body_words" (defScope s_f_body_words) s.heap.objs.size f cdv))) :
    PSs (cxOf CX0 P w K mg base n_f_body_words "body_words" (defScope s_f_body_words) f cdv A outer s H E).nox (defBody s_f_body_words) (t_f_body_words K w n) :=
 (pss_cons (ps_set (i := 1) sc_f_body_words.nd rfl (Or.inl rfl) (pe_lst pa_nil))
 (pss_cons (ps_for PassesOwn.never rfl (pi_tup (pv 0)) (pg_name (i := 2) sc_f_body_words.nd rfl (Or.inl rfl)) (pss_cons (ps_expr (pe_bm PySem.F.plainAttrs_list PySem.F.slot_list_append PySem.F.type_list_append mt_append (pv 1) (pa_cons (pe_ix ix_tup (pv 2) pe_int (fun _ _ => rfl)) pa_nil)))
 (pss_one (ps_for PassesOwn.never rfl (pi_zipST rfl G.n_zip (pa_cons (pe_ix ix_ktab (pe_gc rfl (G.c_DEEDS)) (pe_ix ix_tup (pv 2) pe_int (fun _ _ => rfl)) (fun _ _ => rfl)) (pa_cons (pe_slice sl_tup (pv 2) (po_some pe_int) po_none) pa_nil))) (pg_tup rfl (pgs_cons (pg_name (i := 3) sc_f_body_words.nd rfl (Or.inl rfl)) (pgs_cons (pg_name (i := 4) sc_f_body_words.nd rfl (Or.inl rfl)) pgs_nil))) (pss_one (ps_if (pt_cmpR op_eq (pv 3) pe_str (nomark _)) (pss_one (ps_expr (pe_bm PySem.F.plainAttrs_list PySem.F.slot_list_extend PySem.F.type_list_extend mt_extend (pv 1) (pa_cons (pe_c c_part_words hr (by omega) (by rfl) (pa_cons (pv 4) pa_nil)) pa_nil)))) (pss_one (ps_if (pt_cmpR op_eq (pv 3) pe_str (nomark _)) (pss_one (ps_expr (pe_bm PySem.F.plainAttrs_list PySem.F.slot_list_extend PySem.F.type_list_extend mt_extend (pv 1) (pa_cons (pe_c c_body_words hr (by omega) (by rfl) (pa_cons (pv 4) pa_nil)) pa_nil)))) (pss_one (ps_if (pt_cmpR op_eq (pv 3) pe_str (nomark _)) (pss_cons (ps_expr (pe_bm PySem.F.plainAttrs_list PySem.F.slot_list_append PySem.F.type_list_append mt_append (pv 1) (pa_cons (pe_callTy call_str_int (by rfl) G.n_str (by decide +kernel) (pa_cons (pe_callB call_len_seq (by rfl) G.n_len PySem.boot_len (pa_cons (pv 4) pa_nil)) pa_nil)) pa_nil)))
 (pss_one (ps_for PassesOwn.never rfl (pi_tup (pv 4)) (pg_name (i := 5) sc_f_body_words.nd rfl (Or.inl rfl)) (pss_one (ps_expr (pe_bm PySem.F.plainAttrs_list PySem.F.slot_list_extend PySem.F.type_list_extend mt_extend (pv 1) (pa_cons (pe_c c_part_words hr (by omega) (by rfl) (pa_cons (pv 5) pa_nil)) pa_nil))))))) (pss_one (ps_expr (pe_bm PySem.F.plainAttrs_list PySem.F.slot_list_append PySem.F.type_list_append mt_append (pv 1) (pa_cons (pe_callTy call_str_int (by rfl) G.n_str (by decide +kernel) (pa_cons (pv 4) pa_nil)) pa_nil))))))))))))))
 (pss_one (ps_ret (pe_op op_cat (pv 1) (pe_lst (pa_cons (pe_gc rfl (G.c_CLOSE)) pa_nil)))))))
theorem sc_f_written : FnScope n_f_written ["program"] (defScope s_f_written) := ⟨rfl, rfl, rfl, by decide +kernel, rfl, by decide +kernel, by decide +kernel⟩
theorem der_f_written {P : Program} {w : World} {K : PySem.W.Frag} {mg : Str → Option Value} {base : Heap} {j : Nat}  (F : Fcts K) (G : Gx K mg) (c_need_program : Cal P w K mg base j "need_program" (sp_need_program K w) []) (c_body_words : Cal P w K mg base j "body_words" (sp_body_words 9 K w) []) {f : Addr} {cdv : Value} {A : Around} {outer : List Env} {s : Shared} {H : Hp} {E : XK} (hr : Room j (A.deeper (envOfC "written" (defScope s_f_written) s.heap.objs.size f cdv))) :
    PSs (cxOf CX0 P w K mg base n_f_written "written" (defScope s_f_written) f cdv A outer s H E).nox (defBody s_f_written) (t_f_written K w ) :=
 (pss_cons (ps_expr (pe_c c_need_program hr (by omega) (by rfl) (pa_cons (pv 0) pa_nil)))
 (pss_cons (ps_set (i := 1) sc_f_written.nd rfl (Or.inl rfl) (pe_op op_cat (pe_lst (pa_cons (pe_gc rfl (G.c_CELLS)) (pa_cons (pe_callTy call_str_int (by rfl) G.n_str (by decide +kernel) (pa_cons (pe_callB call_len_seq (by rfl) G.n_len PySem.boot_len (pa_cons (pe_ix ix_tup (pv 0) pe_int (fun _ _ => rfl)) pa_nil)) pa_nil)) pa_nil))) (pe_lc (own := [("number", 2)]) (g := (gName 2)) (tt := tYes) rfl sc_f_written.nd (pi_tup (pe_ix ix_tup (pv 0) pe_int (fun _ _ => rfl))) (blkOk_by (own := [("number", 2)]) (N := n_f_written) (sc := defScope s_f_written) (by decide +kernel)) (fun _ _ _ _ _ => (pg_name (i := 2) sc_f_written.nd rfl (Or.inl rfl))) (fun _ _ _ _ _ => pts_nil) (fun _ _ _ _ _ => (pe_callTy call_str_int (by rfl) G.n_str (by decide +kernel) (pa_cons (pv 2) pa_nil))))))
 (pss_cons (ps_for PassesOwn.never rfl (pi_tup (pe_ix ix_tup (pv 0) pe_int (fun _ _ => rfl))) (pg_tup rfl (pgs_cons (pg_name (i := 3) sc_f_written.nd rfl (Or.inl rfl)) (pgs_cons (pg_name (i := 4) sc_f_written.nd rfl (Or.inl rfl)) (pgs_cons (pg_name (i := 5) sc_f_written.nd rfl (Or.inl rfl)) pgs_nil)))) (pss_one (ps_expr (pe_bm PySem.F.plainAttrs_list PySem.F.slot_list_extend PySem.F.type_list_extend mt_extend (pv 1) (pa_cons (pe_op op_cat (pe_lst (pa_cons (pe_gc rfl (G.c_FUN)) (pa_cons (pe_callTy call_str_int (by rfl) G.n_str (by decide +kernel) (pa_cons (pv 3) pa_nil)) (pa_cons (pe_callTy call_str_int (by rfl) G.n_str (by decide +kernel) (pa_cons (pv 4) pa_nil)) pa_nil)))) (pe_c c_body_words hr (by omega) (by rfl) (pa_cons (pv 5) pa_nil))) pa_nil)))))
 (pss_one (ps_ret (pe_bm PySem.F.plainAttrs_str PySem.F.slot_str_join PySem.F.type_str_join mt_joinS pe_str (pa_cons (pe_op op_cat (pe_op op_cat (pv 1) (pe_lst (pa_cons (pe_gc rfl (G.c_HANDS)) (pa_cons (pe_callTy call_str_int (by rfl) G.n_str (by decide +kernel) (pa_cons (pe_callB call_len_seq (by rfl) G.n_len PySem.boot_len (pa_cons (pe_ix ix_tup (pv 0) pe_int (fun _ _ => rfl)) pa_nil)) pa_nil)) pa_nil)))) (pe_lc (own := [("fun", 6)]) (g := (gName 6)) (tt := tYes) rfl sc_f_written.nd (pi_tup (pe_ix ix_tup (pv 0) pe_int (fun _ _ => rfl))) (blkOk_by (own := [("fun", 6)]) (N := n_f_written) (sc := defScope s_f_written) (by decide +kernel)) (fun _ _ _ _ _ => (pg_name (i := 6) sc_f_written.nd rfl (Or.inl rfl))) (fun _ _ _ _ _ => pts_nil) (fun _ _ _ _ _ => (pe_callTy call_str_int (by rfl) G.n_str (by decide +kernel) (pa_cons (pv 6) pa_nil))))) pa_nil)))))))
theorem sc_f_number_of : FnScope n_f_number_of ["word"] (defScope s_f_number_of) := ⟨rfl, rfl, rfl, by decide +kernel, rfl, by decide +kernel, by decide +kernel⟩
theorem der_f_number_of {P : Program} {w : World} {K : PySem.W.Frag} {mg : Str → Option Value} {base : Heap} {j : Nat}  (F : Fcts K) (G : Gx K mg)  {f : Addr} {cdv : Value} {A : Around} {outer : List Env} {s : Shared} {H : Hp} {E : XK} (hr : Room j (A.deeper (envOfC "number_of" (defScope s_f_number_of) s.heap.objs.size f cdv))) :
    PSs (cxOf CX0 P w K mg base n_f_number_of "number_of" (defScope s_f_number_of) f cdv A outer s H E).nox (defBody s_f_number_of) (t_f_number_of K w ) :=
 (pss_cons (ps_if (PW.pt (pw_or (pt_not (pt_chain op_le op_le pe_int (pe_callB call_len_str (by rfl) G.n_len PySem.boot_len (pa_cons (pv 0) pa_nil)) (pe_gc rfl (G.c_MOST_FIGURES)))) (pw_or1 (pt_cmpR (op_neNil (hu_of hr)) (pe_lc (own := [("sign", 1)]) (g := (gName 1)) (tt := (tTest (tOp rNotInS (tVar 1) (tC (.str "0123456789"))))) rfl sc_f_number_of.nd (pi_str (pv 0)) (blkOk_by (own := [("sign", 1)]) (N := n_f_number_of) (sc := defScope s_f_number_of) (by decide +kernel)) (fun _ _ _ _ _ => (pg_name (i := 1) sc_f_number_of.nd rfl (Or.inl rfl))) (fun _ _ _ _ _ => (pts_one (pt_cmpR op_notIn_sign (pv 1) (pe_gc rfl (G.c_FIGURES)) rfl))) (fun _ _ _ _ _ => (pv 1))) (pe_lst pa_nil) (nomark _))))) (pss_one (ps_ret pe_non)) pss_nil)
 (pss_one (ps_ret (pe_ifExp (PW.pt (pw_and (pt_cmpR op_eq (pe_ix ix_str (pv 0) pe_int (fun _ _ => rfl)) pe_str (nomark _)) (pw_and1 (pt_cmpR op_ne (pv 0) pe_str (nomark _))))) pe_non (pe_callTy call_int_str (by rfl) G.n_int (by decide +kernel) (pa_cons (pv 0) pa_nil))))))
theorem sc_m_Reader_init : FnScope n_m_Reader_init ["self", "text"] (defScope s_m_Reader_init) := ⟨rfl, rfl, rfl, by decide +kernel, rfl, by decide +kernel, by decide +kernel⟩
theorem der_m_Reader_init {P : Program} {w : World} {K : PySem.W.Frag} {mg : Str → Option Value} {base : Heap} {j : Nat}  (F : Fcts K) (G : Gx K mg)  {f : Addr} {cdv : Value} {A : Around} {outer : List Env} {s : Shared} {H : Hp} {E : XK} (hr : Room j (A.deeper (envOfC "Reader.__init__" (defScope s_m_Reader_init) s.heap.objs.size f cdv))) :
    PSs (cxOf CX0 P w K mg base n_m_Reader_init "Reader.__init__" (defScope s_m_Reader_init) f cdv A outer s H E).nox (defBody s_m_Reader_init) (t_m_Reader_init K w ) :=
 (pss_cons (ps_fld (pv 0) (pe_ifExp (pt_cmpR op_ne (pv 1) pe_str (nomark _)) (pe_bm PySem.F.plainAttrs_str PySem.F.slot_str_split PySem.F.type_str_split mt_splitS (pv 1) (pa_cons pe_str pa_nil)) (pe_lst pa_nil)) rfl)
 (pss_one (ps_fld (pv 0) pe_int rfl)))
theorem sc_m_Reader_word : FnScope n_m_Reader_word ["self", "some"] (defScope s_m_Reader_word) := ⟨rfl, rfl, rfl, by decide +kernel, rfl, by decide +kernel, by decide +kernel⟩
theorem der_m_Reader_word {P : Program} {w : World} {K : PySem.W.Frag} {mg : Str → Option Value} {base : Heap} {j : Nat}  (F : Fcts K) (G : Gx K mg)  {f : Addr} {cdv : Value} {A : Around} {outer : List Env} {s : Shared} {H : Hp} {E : XK} (hr : Room j (A.deeper (envOfC "Reader.word" (defScope s_m_Reader_word) s.heap.objs.size f cdv))) :
    PSs (cxOf CX0 P w K mg base n_m_Reader_word "Reader.word" (defScope s_m_Reader_word) f cdv A outer s H E).nox (defBody s_m_Reader_word) (t_m_Reader_word K w ) :=
 (pss_cons (ps_if (PW.pt (pw_or (pt_cmpR op_eq (pe_xfReader_at F (pv 0) rfl) (pe_callB call_len_seq (by rfl) G.n_len PySem.boot_len (pa_cons (pe_xfReader_words F (pv 0) rfl) pa_nil)) (nomark _)) (pw_or1 (PW.pt (pw_and (pt_cmpR op_notN (pv 1) pe_non (nomark _)) (pw_and1 (pt_cmpR op_notIn_seq (pe_ix ix_list (pe_xfReader_words F (pv 0) rfl) (pe_xfReader_at F (pv 0) rfl) (fun _ _ => rfl)) (pv 1) (by rfl)))))))) (pss_one ps_never) pss_nil)
 (pss_cons (ps_xsReader_at F (pv 0) (pe_op op_add (pe_xfReader_at F (pv 0) rfl) pe_int) rfl)
 (pss_one (ps_ret (pe_ix ix_list (pe_xfReader_words F (pv 0) rfl) (pe_op op_sub (pe_xfReader_at F (pv 0) rfl) pe_int) (fun _ _ => rfl))))))
theorem sc_m_Reader_number : FnScope n_m_Reader_number ["self"] (defScope s_m_Reader_number) := ⟨rfl, rfl, rfl, by decide +kernel, rfl, by decide +kernel, by decide +kernel⟩
theorem der_m_Reader_number {P : Program} {w : World} {K : PySem.W.Frag} {mg : Str → Option Value} {base : Heap} {j : Nat}  (F : Fcts K) (G : Gx K mg) (c_Reader_word : Met P w K mg base j (He.ga K "Reader") "word" (sp_Reader_word K w) []) (c_number_of : Cal P w K mg base j "number_of" (sp_number_of K w) []) {f : Addr} {cdv : Value} {A : Around} {outer : List Env} {s : Shared} {H : Hp} {E : XK} (hr : Room j (A.deeper (envOfC "Reader.number" (defScope s_m_Reader_number) s.heap.objs.size f cdv))) :
    PSs (cxOf CX0 P w K mg base n_m_Reader_number "Reader.number" (defScope s_m_Reader_number) f cdv A outer s H E).nox (defBody s_m_Reader_number) (t_m_Reader_number K w ) :=
 (pss_cons (ps_set (i := 1) sc_m_Reader_number.nd rfl (Or.inl rfl) (pe_c c_number_of hr (by omega) (by rfl) (pa_cons (pe_mt c_Reader_word hr (by omega) (pv 0) (pa_cons pe_non pa_nil)) pa_nil)))
 (pss_cons (ps_if (pt_cmpR op_isN (pv 1) pe_non (nomark _)) (pss_one ps_never) pss_nil)
 (pss_one (ps_ret (pv 1)))))
theorem sc_m_Reader_numbers : FnScope n_m_Reader_numbers ["self"] (defScope s_m_Reader_numbers) := ⟨rfl, rfl, rfl, by decide +kernel, rfl, by decide +kernel, by decide +kernel⟩
theorem der_m_Reader_numbers {P : Program} {w : World} {K : PySem.W.Frag} {mg : Str → Option Value} {base : Heap} {j : Nat}  (F : Fcts K) (G : Gx K mg) (c_Reader_number : Met P w K mg base j (He.ga K "Reader") "number" (sp_Reader_number K w) []) {f : Addr} {cdv : Value} {A : Around} {outer : List Env} {s : Shared} {H : Hp} {E : XK} (hr : Room j (A.deeper (envOfC "Reader.numbers" (defScope s_m_Reader_numbers) s.heap.objs.size f cdv))) :
    PSs (cxOf CX0 P w K mg base n_m_Reader_numbers "Reader.numbers" (defScope s_m_Reader_numbers) f cdv A outer s H E).nox (defBody s_m_Reader_numbers) (t_m_Reader_numbers K w ) :=
 (pss_one (ps_ret (pe_callTy call_tuple_of (by rfl) G.n_tuple (by decide +kernel) (pa_cons (pe_lc (own := [("turn", 1)]) (g := (gName 1)) (tt := tYes) rfl sc_m_Reader_numbers.nd (pi_range1 rfl G.n_range (pa_cons (pe_mt0 c_Reader_number hr (by omega) (pv 0)) pa_nil)) (blkOk_by (own := [("turn", 1)]) (N := n_m_Reader_numbers) (sc := defScope s_m_Reader_numbers) (by decide +kernel)) (fun _ _ _ _ _ => (pg_name (i := 1) sc_m_Reader_numbers.nd rfl (Or.inl rfl))) (fun _ _ _ _ _ => pts_nil) (fun _ _ _ _ _ => (pe_mt0 c_Reader_number hr (by omega) (pv 0)))) pa_nil))))
theorem sc_m_Reader_part : FnScope n_m_Reader_part ["self"] (defScope s_m_Reader_part) := ⟨rfl, rfl, rfl, by decide +kernel, rfl, by decide +kernel, by decide +kernel⟩
theorem der_m_Reader_part {P : Program} {w : World} {K : PySem.W.Frag} {mg : Str → Option Value} {base : Heap} {j : Nat} (n : Nat) (F : Fcts K) (G : Gx K mg) (c_Reader_word : Met P w K mg base j (He.ga K "Reader") "word" (sp_Reader_word K w) []) (c_number_of : Cal P w K mg base j "number_of" (sp_number_of K w) []) (c_Reader_part : Met P w K mg base j (He.ga K "Reader") "part" (sp_Reader_part n K w) []) {f : Addr} {cdv : Value} {A : Around} {outer : List Env} {s : Shared} {H : Hp} {E : XK} (hr : Room j (A.deeper (envOfC "Reader.part" (defScope s_m_Reader_part) s.heap.objs.size f cdv))) :
    PSs (cxOf CX0 P w K mg base n_m_Reader_part "Reader.part" (defScope s_m_Reader_part) f cdv A outer s H E).nox (defBody s_m_Reader_part) (t_m_Reader_part K w n) :=
 (pss_cons (ps_set (i := 1) sc_m_Reader_part.nd rfl (Or.inl rfl) (pe_mt c_Reader_word hr (by omega) (pv 0) (pa_cons pe_non pa_nil)))
 (pss_cons (ps_if (pt_cmpR op_notN (pe_c c_number_of hr (by omega) (by rfl) (pa_cons (pv 1) pa_nil)) pe_non (nomark _)) (pss_one (ps_ret (pe_tup (pa_cons pe_str (pa_cons (pe_c c_number_of hr (by omega) (by rfl) (pa_cons (pv 1) pa_nil)) pa_nil))))) pss_nil)
 (pss_cons (ps_if (PW.pt (pw_and (pt_cmpR op_in_seq (pe_slice sl_str (pv 1) po_none (po_some pe_int)) (pe_tup (pa_cons (pe_gc rfl (G.c_NAME)) (pa_cons (pe_gc rfl (G.c_CELL)) pa_nil))) (by rfl)) (pw_and1 (pt_cmpR op_notN (pe_c c_number_of hr (by omega) (by rfl) (pa_cons (pe_slice sl_str (pv 1) (po_some pe_int) po_none) pa_nil)) pe_non (nomark _))))) (pss_one (ps_ret (pe_tup (pa_cons (pe_ifExp (pt_cmpR op_eq (pe_ix ix_str (pv 1) pe_int (fun _ _ => rfl)) (pe_gc rfl (G.c_NAME)) (nomark _)) pe_str pe_str) (pa_cons (pe_c c_number_of hr (by omega) (by rfl) (pa_cons (pe_slice sl_str (pv 1) (po_some pe_int) po_none) pa_nil)) pa_nil))))) pss_nil)
 (pss_cons (ps_if (pt_cmpR op_notIn_seq (pv 1) (pe_gc rfl (G.c_TWO)) (by rfl)) (pss_one ps_never) pss_nil)
 (pss_cons (ps_set (i := 2) sc_m_Reader_part.nd rfl (Or.inl rfl) (pe_mt0 c_Reader_part hr (by omega) (pv 0)))
 (pss_one (ps_ret (pe_tup (pa_cons (pv 1) (pa_cons (pv 2) (pa_cons (pe_mt0 c_Reader_part hr (by omega) (pv 0)) pa_nil)))))))))))
theorem sc_m_Reader_piece : FnScope n_m_Reader_piece ["self", "kind"] (defScope s_m_Reader_piece) := ⟨rfl, rfl, rfl, by decide +kernel, rfl, by decide +kernel, by decide +kernel⟩
theorem der_m_Reader_piece {P : Program} {w : World} {K : PySem.W.Frag} {mg : Str → Option Value} {base : Heap} {j : Nat} (n : Nat) (F : Fcts K) (G : Gx K mg) (c_Reader_part : Met P w K mg base j (He.ga K "Reader") "part" (sp_Reader_part 8 K w) []) (c_Reader_body : Met P w K mg base j (He.ga K "Reader") "body" (sp_Reader_body n K w) []) (c_Reader_number : Met P w K mg base j (He.ga K "Reader") "number" (sp_Reader_number K w) []) {f : Addr} {cdv : Value} {A : Around} {outer : List Env} {s : Shared} {H : Hp} {E : XK} (hr : Room j (A.deeper (envOfC "Reader.piece" (defScope s_m_Reader_piece) s.heap.objs.size f cdv))) :
    PSs (cxOf CX0 P w K mg base n_m_Reader_piece "Reader.piece" (defScope s_m_Reader_piece) f cdv A outer s H E).nox (defBody s_m_Reader_piece) (t_m_Reader_piece K w n) :=
 (pss_cons (ps_if (pt_cmpR op_eq (pv 1) pe_str (nomark _)) (pss_one (ps_ret (pe_mt0 c_Reader_part hr (by omega) (pv 0)))) pss_nil)
 (pss_cons (ps_if (pt_cmpR op_eq (pv 1) pe_str (nomark _)) (pss_one (ps_ret (pe_mt0 c_Reader_body hr (by omega) (pv 0)))) pss_nil)
 (pss_one (ps_ret (pe_ifExp (pt_cmpR op_eq (pv 1) pe_str (nomark _)) (pe_callTy call_tuple_of (by rfl) G.n_tuple (by decide +kernel) (pa_cons (pe_lc (own := [("turn", 2)]) (g := (gName 2)) (tt := tYes) rfl sc_m_Reader_piece.nd (pi_range1 rfl G.n_range (pa_cons (pe_mt0 c_Reader_number hr (by omega) (pv 0)) pa_nil)) (blkOk_by (own := [("turn", 2)]) (N := n_m_Reader_piece) (sc := defScope s_m_Reader_piece) (by decide +kernel)) (fun _ _ _ _ _ => (pg_name (i := 2) sc_m_Reader_piece.nd rfl (Or.inl rfl))) (fun _ _ _ _ _ => pts_nil) (fun _ _ _ _ _ => (pe_mt0 c_Reader_part hr (by omega) (pv 0)))) pa_nil)) (pe_mt0 c_Reader_number hr (by omega) (pv 0)))))))
theorem sc_m_Reader_body : FnScope n_m_Reader_body ["self"] (defScope s_m_Reader_body) := ⟨rfl, rfl, rfl, by decide +kernel, rfl, by decide +kernel, by decide +kernel⟩
theorem der_m_Reader_body {P : Program} {w : World} {K : PySem.W.Frag} {mg : Str → Option Value} {base : Heap} {j : Nat} (n : Nat) (F : Fcts K) (G : Gx K mg) (c_Reader_word : Met P w K mg base j (He.ga K "Reader") "word" (sp_Reader_word K w) []) (c_Reader_piece : Met P w K mg base j (He.ga K "Reader") "piece" (sp_Reader_piece n K w) []) {f : Addr} {cdv : Value} {A : Around} {outer : List Env} {s : Shared} {H : Hp} {E : XK} (hr : Room j (A.deeper (envOfC "Reader.body" (defScope s_m_Reader_body) s.heap.objs.size f cdv))) :
    PSs (cxOf CX0 P w K mg base n_m_Reader_body "Reader.body" (defScope s_m_Reader_body) f cdv A outer s H E).nox (defBody s_m_Reader_body) (t_m_Reader_body K w n) :=
 (pss_cons (ps_set (i := 1) sc_m_Reader_body.nd rfl (Or.inl rfl) (pe_tup pa_nil))
 (pss_cons (ps_set (i := 2) sc_m_Reader_body.nd rfl (Or.inl rfl) (pe_mt c_Reader_word hr (by omega) (pv 0) (pa_cons (pe_op op_cat (pe_callTy (call_listKT rfl) (by rfl) G.n_list (by decide +kernel) (pa_cons (pe_gc rfl (G.c_DEEDS)) pa_nil)) (pe_lst (pa_cons (pe_gc rfl (G.c_CLOSE)) pa_nil))) pa_nil)))
 (pss_cons (ps_while PassesOwn.never (pt_cmpR op_ne (pv 2) (pe_gc rfl (G.c_CLOSE)) (nomark _)) (pss_cons (ps_set (i := 1) sc_m_Reader_body.nd rfl (Or.inl rfl) (pe_op op_catA (pv 1) (pe_tup (pa_cons (pe_op op_catA (pe_tup (pa_cons (pv 2) pa_nil)) (pe_callTy call_tuple_of (by rfl) G.n_tuple (by decide +kernel) (pa_cons (pe_lc (own := [("kind", 3)]) (g := (gName 3)) (tt := tYes) rfl sc_m_Reader_body.nd (pi_str (pe_ix ix_ktab (pe_gc rfl (G.c_DEEDS)) (pv 2) (fun _ _ => rfl))) (blkOk_by (own := [("kind", 3)]) (N := n_m_Reader_body) (sc := defScope s_m_Reader_body) (by decide +kernel)) (fun _ _ _ _ _ => (pg_name (i := 3) sc_m_Reader_body.nd rfl (Or.inl rfl))) (fun _ _ _ _ _ => pts_nil) (fun _ _ _ _ _ => (pe_mt c_Reader_piece hr (by omega) (pv 0) (pa_cons (pv 3) pa_nil)))) pa_nil))) pa_nil))))
 (pss_one (ps_set (i := 2) sc_m_Reader_body.nd rfl (Or.inl rfl) (pe_mt c_Reader_word hr (by omega) (pv 0) (pa_cons (pe_op op_cat (pe_callTy (call_listKT rfl) (by rfl) G.n_list (by decide +kernel) (pa_cons (pe_gc rfl (G.c_DEEDS)) pa_nil)) (pe_lst (pa_cons (pe_gc rfl (G.c_CLOSE)) pa_nil))) pa_nil))))))
 (pss_one (ps_ret (pv 1))))))
theorem sc_f_read : FnScope n_f_read ["text"] (defScope s_f_read) := ⟨rfl, rfl, rfl, by decide +kernel, rfl, by decide +kernel, by decide +kernel⟩
theorem der_f_read {P : Program} {w : World} {K : PySem.W.Frag} {mg : Str → Option Value} {base : Heap} {j : Nat}  (F : Fcts K) (G : Gx K mg) {jm_Reader : Nat} (hj_Reader : jm_Reader + 1 ≤ j) (c_Reader : Mak P w K mg base jm_Reader "Reader" (He.ga K "Reader") (sp_Reader_init K w) []) (c_Reader_word : Met P w K mg base j (He.ga K "Reader") "word" (sp_Reader_word K w) []) (c_Reader_numbers : Met P w K mg base j (He.ga K "Reader") "numbers" (sp_Reader_numbers K w) []) (c_Reader_number : Met P w K mg base j (He.ga K "Reader") "number" (sp_Reader_number K w) []) (c_Reader_body : Met P w K mg base j (He.ga K "Reader") "body" (sp_Reader_body 18 K w) []) (c_need_program : Cal P w K mg base j "need_program" (sp_need_program K w) []) {f : Addr} {cdv : Value} {A : Around} {outer : List Env} {s : Shared} {H : Hp} {E : XK} (hr : Room j (A.deeper (envOfC "read" (defScope s_f_read) s.heap.objs.size f cdv))) :
    PSs (cxOf CX0 P w K mg base n_f_read "read" (defScope s_f_read) f cdv A outer s H E).nox (defBody s_f_read) (t_f_read K w ) :=
 (pss_cons (ps_set (i := 1) sc_f_read.nd rfl (Or.inl rfl) (pe_mk c_Reader hr (by omega) (by rfl) (pa_cons (pv 0) pa_nil)))
 (pss_cons (ps_expr (pe_mt c_Reader_word hr (by omega) (pv 1) (pa_cons (pe_lst (pa_cons (pe_gc rfl (G.c_CELLS)) pa_nil)) pa_nil)))
 (pss_cons (ps_set (i := 2) sc_f_read.nd rfl (Or.inl rfl) (pe_mt0 c_Reader_numbers hr (by omega) (pv 1)))
 (pss_cons (ps_set (i := 3) sc_f_read.nd rfl (Or.inl rfl) (pe_tup pa_nil))
 (pss_cons (ps_while PassesOwn.never (pt_cmpR op_eq (pe_mt c_Reader_word hr (by omega) (pv 1) (pa_cons (pe_lst (pa_cons (pe_gc rfl (G.c_FUN)) (pa_cons (pe_gc rfl (G.c_HANDS)) pa_nil))) pa_nil)) (pe_gc rfl (G.c_FUN)) (nomark _)) (pss_cons (ps_set (i := 4) sc_f_read.nd rfl (Or.inl rfl) (pe_mt0 c_Reader_number hr (by omega) (pv 1)))
 (pss_cons (ps_set (i := 5) sc_f_read.nd rfl (Or.inl rfl) (pe_mt0 c_Reader_number hr (by omega) (pv 1)))
 (pss_one (ps_set (i := 3) sc_f_read.nd rfl (Or.inl rfl) (pe_op op_catA (pv 3) (pe_tup (pa_cons (pe_tup (pa_cons (pv 4) (pa_cons (pv 5) (pa_cons (pe_mt0 c_Reader_body hr (by omega) (pv 1)) pa_nil)))) pa_nil))))))))
 (pss_cons (ps_set (i := 6) sc_f_read.nd rfl (Or.inl rfl) (pe_tup (pa_cons (pv 2) (pa_cons (pv 3) (pa_cons (pe_mt0 c_Reader_numbers hr (by omega) (pv 1)) pa_nil)))))
 (pss_cons (ps_if (pt_cmpR op_lt (pe_xfReader_at F (pv 1) rfl) (pe_callB call_len_seq (by rfl) G.n_len PySem.boot_len (pa_cons (pe_xfReader_words F (pv 1) rfl) pa_nil)) (nomark _)) (pss_one ps_never) pss_nil)
 (pss_cons (ps_expr (pe_c c_need_program hr (by omega) (by rfl) (pa_cons (pv 6) pa_nil)))
 (pss_one (ps_ret (pv 6)))))))))))
theorem sc_f_law_dice : FnScope n_f_law_dice ["_law_script"] (defScope s_f_law_dice) := ⟨rfl, rfl, rfl, by decide +kernel, rfl, by decide +kernel, by decide +kernel⟩
theorem der_f_law_dice {P : Program} {w : World} {K : PySem.W.Frag} {mg : Str → Option Value} {base : Heap} {j : Nat}  (F : Fcts K) (G : Gx K mg)  {f : Addr} {cdv : Value} {A : Around} {outer : List Env} {s : Shared} {H : Hp} {E : XK} (hr : Room j (A.deeper (envOfC "_law_dice" (defScope s_f_law_dice) s.heap.objs.size f cdv))) :
    PSs (cxOf CX0 P w K mg base n_f_law_dice "_law_dice" (defScope s_f_law_dice) f cdv A outer s H E).nox (defBody s_f_law_dice) (t_f_law_dice K w ) :=
 (pss_cons (ps_set (i := 1) sc_f_law_dice.nd rfl (Or.inl rfl) pe_int)
 (pss_cons (ps_for PassesOwn.never rfl (pi_list (pv 0)) (pg_name (i := 2) sc_f_law_dice.nd rfl (Or.inl rfl)) (pss_one (ps_set (i := 1) sc_f_law_dice.nd rfl (Or.inl rfl) (pe_op op_mod (pe_op op_add (pe_op op_add (pe_op op_mul (pv 1) pe_int) (pe_op op_mul (pe_op op_mod (pv 2) pe_int) pe_int)) pe_int) pe_int))))
 (pss_one (ps_ret (pe_lst (pa_cons (pv 0) (pa_cons pe_int (pa_cons (pe_op op_mul (pv 1) (pe_callTy call_int1 (by rfl) G.n_int (by decide +kernel) (pa_cons (pe_cmpR op_gt (pe_callB call_len_seq (by rfl) G.n_len PySem.boot_len (pa_cons (pv 0) pa_nil)) pe_int (nomark _)) pa_nil))) (pa_cons pe_int pa_nil)))))))))
theorem sc_f_law_next : FnScope n_f_law_next ["_law_dice_here", "_law_many"] (defScope s_f_law_next) := ⟨rfl, rfl, rfl, by decide +kernel, rfl, by decide +kernel, by decide +kernel⟩
theorem der_f_law_next {P : Program} {w : World} {K : PySem.W.Frag} {mg : Str → Option Value} {base : Heap} {j : Nat}  (F : Fcts K) (G : Gx K mg)  {f : Addr} {cdv : Value} {A : Around} {outer : List Env} {s : Shared} {H : Hp} {E : XK} (hr : Room j (A.deeper (envOfC "_law_next" (defScope s_f_law_next) s.heap.objs.size f cdv))) :
    PSs (cxOf CX0 P w K mg base n_f_law_next "_law_next" (defScope s_f_law_next) f cdv A outer s H E).nox (defBody s_f_law_next) (t_f_law_next K w ) :=
 (pss_cons (ps_if (pt_cmpR op_gt (pe_ix ix_list (pv 0) pe_int (fun _ _ => rfl)) pe_int (nomark _)) (pss_cons (ps_set (i := 2) sc_f_law_next.nd rfl (Or.inl rfl) (pe_op op_mod (pe_ix ix_list (pv 0) pe_int (fun _ _ => rfl)) (pv 1)))
 (pss_cons (ps_asg (pe_op op_fdiv (pe_ix ix_list (pv 0) pe_int (fun _ _ => rfl)) (pv 1)) (pg_sub (pv 0) pe_int set_list))
 (pss_one (ps_ret (pv 2))))) pss_nil)
 (pss_cons (ps_asg (pe_op op_add (pe_ix ix_list (pv 0) pe_int (fun _ _ => rfl)) pe_int) (pg_sub (pv 0) pe_int set_list))
 (pss_cons (ps_if (pt_cmpR op_le (pe_ix ix_list (pv 0) pe_int (fun _ _ => rfl)) (pe_callB call_len_seq (by rfl) G.n_len PySem.boot_len (pa_cons (pe_ix ix_list (pv 0) pe_int (fun _ _ => rfl)) pa_nil)) (nomark _)) (pss_cons (ps_set (i := 3) sc_f_law_next.nd rfl (Or.inl rfl) (pe_ix ix_list (pe_ix ix_list (pv 0) pe_int (fun _ _ => rfl)) (pe_op op_sub (pe_ix ix_list (pv 0) pe_int (fun _ _ => rfl)) pe_int) (fun _ _ => rfl)))
 (pss_cons (ps_asg (pe_ifExp (pt_cmpR op_ge (pv 3) (pe_op op_pow pe_int pe_int) (nomark _)) (pe_op op_fdiv (pv 3) (pv 1)) pe_int) (pg_sub (pv 0) pe_int set_list))
 (pss_one (ps_ret (pe_op op_mod (pv 3) (pv 1)))))) pss_nil)
 (pss_cons (ps_asg (pe_op op_mod (pe_op op_mul (pe_ix ix_list (pv 0) pe_int (fun _ _ => rfl)) pe_int) pe_int) (pg_sub (pv 0) pe_int set_list))
 (pss_one (ps_ret (pe_op op_mod (pe_op op_fdiv (pe_ix ix_list (pv 0) pe_int (fun _ _ => rfl)) pe_int) (pv 1))))))))
theorem sc_f_law_like : FnScope n_f_law_like ["_law_found", "_law_due"] (defScope s_f_law_like) := ⟨rfl, rfl, rfl, by decide +kernel, rfl, by decide +kernel, by decide +kernel⟩
theorem der_f_law_like {P : Program} {w : World} {K : PySem.W.Frag} {mg : Str → Option Value} {base : Heap} {j : Nat} (n : Nat) (F : Fcts K) (G : Gx K mg) (c_law_like : Cal P w K mg base j "_law_like" (sp_law_like n K w) []) {f : Addr} {cdv : Value} {A : Around} {outer : List Env} {s : Shared} {H : Hp} {E : XK} (hr : Room j (A.deeper (envOfC "_law_like" (defScope s_f_law_like) s.heap.objs.size f cdv))) :
    PSs (cxOf CX0 P w K mg base n_f_law_like "_law_like" (defScope s_f_law_like) f cdv A outer s H E).nox (defBody s_f_law_like) (t_f_law_like K w n) :=
 (pss_cons (ps_if (pt_val (pe_callB call_isi' (by rfl) G.n_isinstance (by decide +kernel) (pa_cons (pv 1) (pa_cons (pe_bltn (by rfl) G.n_bool boot_bool rfl) pa_nil)))) (pss_one (ps_ret (pe_and (pe_callB call_isi' (by rfl) G.n_isinstance (by decide +kernel) (pa_cons (pv 0) (pa_cons (pe_bltn (by rfl) G.n_bool boot_bool rfl) pa_nil))) (pe_one (pe_cmpR op_eq (pv 0) (pv 1) (nomark _)))))) pss_nil)
 (pss_cons (ps_if (pt_val (pe_callB call_isi' (by rfl) G.n_isinstance (by decide +kernel) (pa_cons (pv 1) (pa_cons (pe_bltn (by rfl) G.n_str boot_str rfl) pa_nil)))) (pss_one (ps_ret (pe_and (pe_callB call_isi' (by rfl) G.n_isinstance (by decide +kernel) (pa_cons (pv 0) (pa_cons (pe_bltn (by rfl) G.n_str boot_str rfl) pa_nil))) (pe_one (pe_cmpR op_eq (pv 0) (pv 1) (nomark _)))))) pss_nil)
 (pss_cons (ps_if (pt_val (pe_callB call_isi' (by rfl) G.n_isinstance (by decide +kernel) (pa_cons (pv 1) (pa_cons (pe_bltn (by rfl) G.n_int boot_int rfl) pa_nil)))) (pss_one (ps_ret (pe_and (pe_callB call_isi' (by rfl) G.n_isinstance (by decide +kernel) (pa_cons (pv 0) (pa_cons (pe_bltn (by rfl) G.n_int boot_int rfl) pa_nil))) (pe_and (pe_not (pe_callB call_isi' (by rfl) G.n_isinstance (by decide +kernel) (pa_cons (pv 0) (pa_cons (pe_bltn (by rfl) G.n_bool boot_bool rfl) pa_nil)))) (pe_one (pe_cmpR op_eq (pv 0) (pv 1) (nomark _))))))) pss_nil)
 (pss_cons (ps_if (pt_cmpR op_isN (pv 1) pe_non (nomark _)) (pss_one (ps_ret (pe_cmpR op_isN (pv 0) pe_non (nomark _)))) pss_nil)
 (pss_cons (ps_if (PW.pt (pw_or (pt_cmpR op_ne (pe_callB call_isi' (by rfl) G.n_isinstance (by decide +kernel) (pa_cons (pv 1) (pa_cons (pe_bltn (by rfl) G.n_tuple boot_tuple rfl) pa_nil))) (pe_callB call_isi' (by rfl) G.n_isinstance (by decide +kernel) (pa_cons (pv 0) (pa_cons (pe_bltn (by rfl) G.n_tuple boot_tuple rfl) pa_nil))) (nomark _)) (pw_or1 (pt_cmpR op_ne (pe_callB call_isi' (by rfl) G.n_isinstance (by decide +kernel) (pa_cons (pv 1) (pa_cons (pe_bltn (by rfl) G.n_list boot_list rfl) pa_nil))) (pe_callB call_isi' (by rfl) G.n_isinstance (by decide +kernel) (pa_cons (pv 0) (pa_cons (pe_bltn (by rfl) G.n_list boot_list rfl) pa_nil))) (nomark _))))) (pss_one (ps_ret pe_bl)) pss_nil)
 (pss_cons (ps_if (pt_cmpR op_ne (pe_callB call_len_seq (by rfl) G.n_len PySem.boot_len (pa_cons (pv 0) pa_nil)) (pe_callB call_len_seq (by rfl) G.n_len PySem.boot_len (pa_cons (pv 1) pa_nil)) (nomark _)) (pss_one (ps_ret pe_bl)) pss_nil)
 (pss_cons (ps_for PassesOwn.never rfl (pi_range1 rfl G.n_range (pa_cons (pe_callB call_len_seq (by rfl) G.n_len PySem.boot_len (pa_cons (pv 1) pa_nil)) pa_nil)) (pg_name (i := 2) sc_f_law_like.nd rfl (Or.inl rfl)) (pss_one (ps_if (pt_not (pt_val (pe_c c_law_like hr (by omega) (by rfl) (pa_cons (pe_ix ix_seq (pv 0) (pv 2) (fun _ _ => rfl)) (pa_cons (pe_ix ix_seq (pv 1) (pv 2) (fun _ _ => rfl)) pa_nil))))) (pss_one (ps_ret pe_bl)) pss_nil)))
 (pss_one (ps_ret pe_bl)))))))))
theorem sc_f_law_part : FnScope n_f_law_part ["_law_d", "_law_names", "_law_cells", "_law_deep"] (defScope s_f_law_part) := ⟨rfl, rfl, rfl, by decide +kernel, rfl, by decide +kernel, by decide +kernel⟩
theorem der_f_law_part {P : Program} {w : World} {K : PySem.W.Frag} {mg : Str → Option Value} {base : Heap} {j : Nat} (n : Nat) (F : Fcts K) (G : Gx K mg) (c_law_next : Cal P w K mg base j "_law_next" (sp_law_next K w) []) (c_law_part : Cal P w K mg base j "_law_part" (sp_law_part n K w) []) {f : Addr} {cdv : Value} {A : Around} {outer : List Env} {s : Shared} {H : Hp} {E : XK} (hr : Room j (A.deeper (envOfC "_law_part" (defScope s_f_law_part) s.heap.objs.size f cdv))) :
    PSs (cxOf CX0 P w K mg base n_f_law_part "_law_part" (defScope s_f_law_part) f cdv A outer s H E).nox (defBody s_f_law_part) (t_f_law_part K w n) :=
 (pss_cons (ps_set (i := 4) sc_f_law_part.nd rfl (Or.inl rfl) (pe_c c_law_next hr (by omega) (by rfl) (pa_cons (pv 0) (pa_cons pe_int pa_nil))))
 (pss_cons (ps_if (PW.pt (pw_and (pt_cmpR op_gt (pv 1) pe_int (nomark _)) (pw_and1 (pt_cmpR op_lt (pv 4) pe_int (nomark _))))) (pss_one (ps_ret (pe_tup (pa_cons pe_str (pa_cons (pe_c c_law_next hr (by omega) (by rfl) (pa_cons (pv 0) (pa_cons (pv 1) pa_nil))) pa_nil))))) pss_nil)
 (pss_cons (ps_if (PW.pt (pw_or (pt_cmpR op_eq (pv 3) pe_int (nomark _)) (pw_or1 (pt_cmpR op_lt (pv 4) pe_int (nomark _))))) (pss_cons (ps_set (i := 5) sc_f_law_part.nd rfl (Or.inl rfl) (pe_ix ix_list (pe_lst (pa_cons (pe_c c_law_next hr (by omega) (by rfl) (pa_cons (pv 0) (pa_cons pe_int pa_nil))) (pa_cons (pe_c c_law_next hr (by omega) (by rfl) (pa_cons (pv 0) (pa_cons pe_int pa_nil))) pa_nil))) (pe_callTy call_int1 (by rfl) G.n_int (by decide +kernel) (pa_cons (pe_cmpR op_eq (pe_c c_law_next hr (by omega) (by rfl) (pa_cons (pv 0) (pa_cons pe_int pa_nil))) pe_int (nomark _)) pa_nil)) (fun _ _ => rfl)))
 (pss_one (ps_ret (pe_ix ix_list (pe_lst (pa_cons (pe_tup (pa_cons pe_str (pa_cons (pv 5) pa_nil))) (pa_cons (pe_tup (pa_cons pe_str (pa_cons (pe_c c_law_next hr (by omega) (by rfl) (pa_cons (pv 0) (pa_cons (pv 2) pa_nil))) pa_nil))) pa_nil))) (pe_op op_mod (pv 4) pe_int) (fun _ _ => rfl))))) pss_nil)
 (pss_cons (ps_set (i := 6) sc_f_law_part.nd rfl (Or.inl rfl) (pe_ix ix_list (pe_lst (pa_cons pe_str (pa_cons pe_str (pa_cons pe_str (pa_cons pe_str (pa_cons pe_str pa_nil)))))) (pe_c c_law_next hr (by omega) (by rfl) (pa_cons (pv 0) (pa_cons pe_int pa_nil))) (fun _ _ => rfl)))
 (pss_one (ps_ret (pe_tup (pa_cons (pv 6) (pa_cons (pe_c c_law_part hr (by omega) (by rfl) (pa_cons (pv 0) (pa_cons (pv 1) (pa_cons (pv 2) (pa_cons (pe_op op_sub (pv 3) pe_int) pa_nil))))) (pa_cons (pe_c c_law_part hr (by omega) (by rfl) (pa_cons (pv 0) (pa_cons (pv 1) (pa_cons (pv 2) (pa_cons (pe_op op_sub (pv 3) pe_int) pa_nil))))) pa_nil))))))))))
theorem sc_f_law_body : FnScope n_f_law_body ["_law_d", "_law_s", "_law_deep", "_law_most"] (defScope s_f_law_body) := ⟨rfl, rfl, rfl, by decide +kernel, rfl, by decide +kernel, by decide +kernel⟩
theorem der_f_law_body {P : Program} {w : World} {K : PySem.W.Frag} {mg : Str → Option Value} {base : Heap} {j : Nat} (n : Nat) (F : Fcts K) (G : Gx K mg) (c_law_next : Cal P w K mg base j "_law_next" (sp_law_next K w) []) (c_law_part : Cal P w K mg base j "_law_part" (sp_law_part 4 K w) []) (c_law_body : Cal P w K mg base j "_law_body" (sp_law_body n K w) []) {f : Addr} {cdv : Value} {A : Around} {outer : List Env} {s : Shared} {H : Hp} {E : XK} (hr : Room j (A.deeper (envOfC "_law_body" (defScope s_f_law_body) s.heap.objs.size f cdv))) :
    PSs (cxOf CX0 P w K mg base n_f_law_body "_law_body" (defScope s_f_law_body) f cdv A outer s H E).nox (defBody s_f_law_body) (t_f_law_body K w n) :=
 (pss_cons (ps_set (i := 4) sc_f_law_body.nd rfl (Or.inl rfl) (pe_tup pa_nil))
 (pss_cons (ps_asg (pv 1) (pg_tup rfl (pgs_cons (pg_name (i := 5) sc_f_law_body.nd rfl (Or.inr rfl)) (pgs_cons (pg_name (i := 6) sc_f_law_body.nd rfl (Or.inr rfl)) (pgs_cons (pg_name (i := 7) sc_f_law_body.nd rfl (Or.inl rfl)) pgs_nil)))))
 (pss_cons (ps_for PassesOwn.never rfl (pi_range1 rfl G.n_range (pa_cons (pe_c c_law_next hr (by omega) (by rfl) (pa_cons (pv 0) (pa_cons (pe_op op_add (pv 3) pe_int) pa_nil))) pa_nil)) (pg_name (i := 8) sc_f_law_body.nd rfl (Or.inl rfl)) (pss_cons (ps_set (i := 9) sc_f_law_body.nd rfl (Or.inl rfl) (pe_c c_law_next hr (by omega) (by rfl) (pa_cons (pv 0) (pa_cons pe_int pa_nil))))
 (pss_cons (ps_set (i := 10) sc_f_law_body.nd rfl (Or.inl rfl) (pe_c c_law_part hr (by omega) (by rfl) (pa_cons (pv 0) (pa_cons (pv 5) (pa_cons (pv 6) (pa_cons (pe_c c_law_next hr (by omega) (by rfl) (pa_cons (pv 0) (pa_cons pe_int pa_nil))) pa_nil))))))
 (pss_one (ps_if (PW.pt (pw_and (pt_cmpR op_lt (pv 9) pe_int (nomark _)) (pw_and1 (pt_cmpR op_gt (pv 5) pe_int (nomark _))))) (pss_one (ps_set (i := 4) sc_f_law_body.nd rfl (Or.inl rfl) (pe_op op_catA (pv 4) (pe_tup (pa_cons (pe_tup (pa_cons pe_str (pa_cons (pe_c c_law_next hr (by omega) (by rfl) (pa_cons (pv 0) (pa_cons (pv 5) pa_nil))) (pa_cons (pv 10) pa_nil)))) pa_nil))))) (pss_one (ps_if (pt_cmpR op_lt (pv 9) pe_int (nomark _)) (pss_one (ps_set (i := 4) sc_f_law_body.nd rfl (Or.inl rfl) (pe_op op_catA (pv 4) (pe_tup (pa_cons (pe_tup (pa_cons pe_str (pa_cons (pe_c c_law_next hr (by omega) (by rfl) (pa_cons (pv 0) (pa_cons (pv 6) pa_nil))) (pa_cons (pv 10) pa_nil)))) pa_nil))))) (pss_one (ps_if (pt_cmpR op_lt (pv 9) pe_int (nomark _)) (pss_one (ps_set (i := 4) sc_f_law_body.nd rfl (Or.inl rfl) (pe_op op_catA (pv 4) (pe_tup (pa_cons (pe_tup (pa_cons pe_str (pa_cons (pv 10) pa_nil))) pa_nil))))) (pss_one (ps_if (PW.pt (pw_and (pt_cmpR op_eq (pv 9) pe_int (nomark _)) (pw_and1 (pt_cmpR op_gt (pv 2) pe_int (nomark _))))) (pss_cons (ps_setLc (i := 11) (own := [("_law_k", 12)]) (g := (gName 12)) (tt := tYes) rfl sc_f_law_body.nd rfl rfl (sw_true rfl rfl rfl (by decide +kernel)) (pi_range1 rfl G.n_range (pa_cons pe_int pa_nil)) (blkOk_by (own := [("_law_k", 12)]) (N := n_f_law_body) (sc := defScope s_f_law_body) (by decide +kernel)) (fun _ _ _ _ _ => (pg_name (i := 12) sc_f_law_body.nd rfl (Or.inl rfl))) (fun _ _ _ _ _ => pts_nil) (fun _ _ _ _ _ => (pe_c c_law_body hr (by omega) (by rfl) (pa_cons (pv 0) (pa_cons (pv 1) (pa_cons (pe_op op_sub (pv 2) pe_int) (pa_cons pe_int pa_nil)))))))
 (pss_one (ps_set (i := 4) sc_f_law_body.nd rfl (Or.inl rfl) (pe_op op_catA (pv 4) (pe_tup (pa_cons (pe_tup (pa_cons pe_str (pa_cons (pv 10) (pa_cons (pe_ix ix_list (pv 11) pe_int (fun _ _ => rfl)) (pa_cons (pe_ix ix_list (pv 11) pe_int (fun _ _ => rfl)) pa_nil))))) pa_nil)))))) (pss_one (ps_if (PW.pt (pw_and (pt_cmpR op_eq (pv 9) pe_int (nomark _)) (pw_and1 (pt_cmpR op_gt (pv 2) pe_int (nomark _))))) (pss_one (ps_set (i := 4) sc_f_law_body.nd rfl (Or.inl rfl) (pe_op op_catA (pv 4) (pe_tup (pa_cons (pe_tup (pa_cons pe_str (pa_cons (pv 10) (pa_cons (pe_c c_law_body hr (by omega) (by rfl) (pa_cons (pv 0) (pa_cons (pv 1) (pa_cons (pe_op op_sub (pv 2) pe_int) (pa_cons pe_int pa_nil))))) pa_nil)))) pa_nil))))) (pss_one (ps_if (PW.pt (pw_and (pt_cmpR op_lt (pv 9) pe_int (nomark _)) (pw_and1 (pt_cmpR op_gt (pv 5) pe_int (nomark _))))) (pss_cons (ps_set (i := 13) sc_f_law_body.nd rfl (Or.inl rfl) (pe_c c_law_next hr (by omega) (by rfl) (pa_cons (pv 0) (pa_cons (pe_callB call_len_seq (by rfl) G.n_len PySem.boot_len (pa_cons (pv 7) pa_nil)) pa_nil))))
 (pss_cons (ps_set (i := 14) sc_f_law_body.nd rfl (Or.inl rfl) (pe_callTy call_tuple_of (by rfl) G.n_tuple (by decide +kernel) (pa_cons (pe_lc (own := [("_law_k", 12)]) (g := (gName 12)) (tt := tYes) rfl sc_f_law_body.nd (pi_range1 rfl G.n_range (pa_cons (pe_ix ix_list (pv 7) (pv 13) (fun _ _ => rfl)) pa_nil)) (blkOk_by (own := [("_law_k", 12)]) (N := n_f_law_body) (sc := defScope s_f_law_body) (by decide +kernel)) (fun _ _ _ _ _ => (pg_name (i := 12) sc_f_law_body.nd rfl (Or.inl rfl))) (fun _ _ _ _ _ => pts_nil) (fun _ _ _ _ _ => (pe_c c_law_part hr (by omega) (by rfl) (pa_cons (pv 0) (pa_cons (pv 5) (pa_cons (pv 6) (pa_cons pe_int pa_nil))))))) pa_nil)))
 (pss_one (ps_set (i := 4) sc_f_law_body.nd rfl (Or.inl rfl) (pe_op op_catA (pv 4) (pe_tup (pa_cons (pe_tup (pa_cons pe_str (pa_cons (pv 13) (pa_cons (pv 14) (pa_cons (pe_c c_law_next hr (by omega) (by rfl) (pa_cons (pv 0) (pa_cons (pv 5) pa_nil))) pa_nil))))) pa_nil))))))) (pss_one (ps_if (PW.pt (pw_and (pt_cmpR op_eq (pv 9) pe_int (nomark _)) (pw_and1 (pt_cmpR op_eq (pe_c c_law_next hr (by omega) (by rfl) (pa_cons (pv 0) (pa_cons pe_int pa_nil))) pe_int (nomark _))))) (pss_one (ps_set (i := 4) sc_f_law_body.nd rfl (Or.inl rfl) (pe_op op_catA (pv 4) (pe_tup (pa_cons (pe_tup (pa_cons pe_str (pa_cons (pv 10) pa_nil))) pa_nil))))) pss_nil)))))))))))))))))
 (pss_one (ps_ret (pv 4))))))
theorem sc_f_law_count : FnScope n_f_law_count ["_law_thing"] (defScope s_f_law_count) := ⟨rfl, rfl, rfl, by decide +kernel, rfl, by decide +kernel, by decide +kernel⟩
theorem der_f_law_count {P : Program} {w : World} {K : PySem.W.Frag} {mg : Str → Option Value} {base : Heap} {j : Nat} (n : Nat) (F : Fcts K) (G : Gx K mg) (c_law_count : Cal P w K mg base j "_law_count" (sp_law_count n K w) []) {f : Addr} {cdv : Value} {A : Around} {outer : List Env} {s : Shared} {H : Hp} {E : XK} (hr : Room j (A.deeper (envOfC "_law_count" (defScope s_f_law_count) s.heap.objs.size f cdv))) :
    PSs (cxOf CX0 P w K mg base n_f_law_count "_law_count" (defScope s_f_law_count) f cdv A outer s H E).nox (defBody s_f_law_count) (t_f_law_count K w n) :=
 (pss_cons (ps_set (i := 1) sc_f_law_count.nd rfl (Or.inl rfl) pe_int)
 (pss_cons (ps_for PassesOwn.never rfl (pi_tup (pv 0)) (pg_name (i := 2) sc_f_law_count.nd rfl (Or.inl rfl)) (pss_one (ps_if (pt_val (pe_callB call_isi' (by rfl) G.n_isinstance (by decide +kernel) (pa_cons (pv 2) (pa_cons (pe_bltn (by rfl) G.n_tuple boot_tuple rfl) pa_nil)))) (pss_one (ps_set (i := 1) sc_f_law_count.nd rfl (Or.inl rfl) (pe_op op_add (pe_op op_add (pv 1) (pe_c c_law_count hr (by omega) (by rfl) (pa_cons (pv 2) pa_nil))) (pe_callTy call_int1 (by rfl) G.n_int (by decide +kernel) (pa_cons (pe_and (pe_cmpR (op_neNilT (hu_of hr)) (pv 2) (pe_tup pa_nil) (nomark _)) (pe_one (pe_callB call_isi' (by rfl) G.n_isinstance (by decide +kernel) (pa_cons (pe_ix ix_tup (pv 2) pe_int (fun _ _ => rfl)) (pa_cons (pe_bltn (by rfl) G.n_str boot_str rfl) pa_nil))))) pa_nil))))) pss_nil)))
 (pss_one (ps_ret (pv 1)))))
theorem sc_f_law_program : FnScope n_f_law_program ["_law_d"] (defScope s_f_law_program) := ⟨rfl, rfl, rfl, by decide +kernel, rfl, by decide +kernel, by decide +kernel⟩
theorem der_f_law_program {P : Program} {w : World} {K : PySem.W.Frag} {mg : Str → Option Value} {base : Heap} {j : Nat}  (F : Fcts K) (G : Gx K mg) (c_law_next : Cal P w K mg base j "_law_next" (sp_law_next K w) []) (c_law_body : Cal P w K mg base j "_law_body" (sp_law_body 5 K w) []) (c_law_count : Cal P w K mg base j "_law_count" (sp_law_count 20 K w) []) {f : Addr} {cdv : Value} {A : Around} {outer : List Env} {s : Shared} {H : Hp} {E : XK} (hr : Room j (A.deeper (envOfC "_law_program" (defScope s_f_law_program) s.heap.objs.size f cdv))) :
    PSs (cxOf CX0 P w K mg base n_f_law_program "_law_program" (defScope s_f_law_program) f cdv A outer s H E).nox (defBody s_f_law_program) (t_f_law_program K w ) :=
 (pss_cons (ps_set (i := 1) sc_f_law_program.nd rfl (Or.inl rfl) (pe_tup pa_nil))
 (pss_cons (ps_for PassesOwn.never rfl (pi_range1 rfl G.n_range (pa_cons (pe_op op_add pe_int (pe_c c_law_next hr (by omega) (by rfl) (pa_cons (pv 0) (pa_cons pe_int pa_nil)))) pa_nil)) (pg_name (i := 2) sc_f_law_program.nd rfl (Or.inl rfl)) (pss_one (ps_set (i := 1) sc_f_law_program.nd rfl (Or.inl rfl) (pe_op op_catA (pv 1) (pe_tup (pa_cons (pe_ix ix_list (pe_lst (pa_cons (pe_c c_law_next hr (by omega) (by rfl) (pa_cons (pv 0) (pa_cons pe_int pa_nil))) (pa_cons (pe_c c_law_next hr (by omega) (by rfl) (pa_cons (pv 0) (pa_cons pe_int pa_nil))) pa_nil))) (pe_c c_law_next hr (by omega) (by rfl) (pa_cons (pv 0) (pa_cons pe_int pa_nil))) (fun _ _ => rfl)) pa_nil))))))
 (pss_cons (ps_set (i := 3) sc_f_law_program.nd rfl (Or.inl rfl) (pe_lst (pa_cons (pe_tup (pa_cons pe_int (pa_cons (pe_c c_law_next hr (by omega) (by rfl) (pa_cons (pv 0) (pa_cons pe_int pa_nil))) pa_nil))) pa_nil)))
 (pss_cons (ps_for PassesOwn.never rfl (pi_range1 rfl G.n_range (pa_cons (pe_c c_law_next hr (by omega) (by rfl) (pa_cons (pv 0) (pa_cons pe_int pa_nil))) pa_nil)) (pg_name (i := 2) sc_f_law_program.nd rfl (Or.inl rfl)) (pss_cons (ps_set (i := 4) sc_f_law_program.nd rfl (Or.inl rfl) (pe_c c_law_next hr (by omega) (by rfl) (pa_cons (pv 0) (pa_cons pe_int pa_nil))))
 (pss_one (ps_expr (pe_bm PySem.F.plainAttrs_list PySem.F.slot_list_append PySem.F.type_list_append mt_append (pv 3) (pa_cons (pe_tup (pa_cons (pe_c c_law_next hr (by omega) (by rfl) (pa_cons (pv 0) (pa_cons (pe_op op_add (pv 4) pe_int) pa_nil))) (pa_cons (pv 4) pa_nil))) pa_nil))))))
 (pss_cons (ps_frzS (ps_set (i := 5) sc_f_law_program.nd rfl (Or.inr rfl) (pe_lc (own := [("_law_head", 6)]) (g := (gName 6)) (tt := tYes) rfl sc_f_law_program.nd (pi_list (pv 3)) (blkOk_by (own := [("_law_head", 6)]) (N := n_f_law_program) (sc := defScope s_f_law_program) (by decide +kernel)) (fun _ _ _ _ _ => (pg_name (i := 6) sc_f_law_program.nd rfl (Or.inl rfl))) (fun _ _ _ _ _ => pts_nil) (fun _ _ _ _ _ => (pe_ix ix_tup (pv 6) pe_int (fun _ _ => rfl))))))
 (pss_cons (ps_set (i := 7) sc_f_law_program.nd rfl (Or.inl rfl) (pe_lst pa_nil))
 (pss_cons (ps_for PassesOwn.never rfl (pi_list (pv 3)) (pg_name (i := 6) sc_f_law_program.nd rfl (Or.inl rfl)) (pss_cons (ps_set (i := 8) sc_f_law_program.nd rfl (Or.inl rfl) (pe_ix ix_list (pe_lst (pa_cons pe_int (pa_cons pe_int (pa_cons pe_int (pa_cons pe_int pa_nil))))) (pe_c c_law_next hr (by omega) (by rfl) (pa_cons (pv 0) (pa_cons pe_int pa_nil))) (fun _ _ => rfl)))
 (pss_cons (ps_set (i := 9) sc_f_law_program.nd rfl (Or.inl rfl) (pe_c c_law_body hr (by omega) (by rfl) (pa_cons (pv 0) (pa_cons (pe_tup (pa_cons (pe_ix ix_tup (pv 6) pe_int (fun _ _ => rfl)) (pa_cons (pe_callB call_len_seq (by rfl) G.n_len PySem.boot_len (pa_cons (pv 1) pa_nil)) (pa_cons (pv 5) pa_nil)))) (pa_cons (pv 8) (pa_cons (pe_ix ix_list (pe_lst (pa_cons pe_int (pa_cons pe_int pa_nil))) (pe_c c_law_next hr (by omega) (by rfl) (pa_cons (pv 0) (pa_cons pe_int pa_nil))) (fun _ _ => rfl)) pa_nil))))))
 (pss_one (ps_expr (pe_bm PySem.F.plainAttrs_list PySem.F.slot_list_append PySem.F.type_list_append mt_append (pv 7) (pa_cons (pe_tup (pa_cons (pe_ix ix_tup (pv 6) pe_int (fun _ _ => rfl)) (pa_cons (pe_ix ix_tup (pv 6) pe_int (fun _ _ => rfl)) (pa_cons (pv 9) pa_nil)))) pa_nil)))))))
 (pss_cons (ps_while PassesOwn.never (pt_cmpR op_gt (pe_callB (cr_sum rfl) (by rfl) G.n_sum (by decide +kernel) (pa_cons (pe_lc (own := [("_law_fun", 10)]) (g := (gName 10)) (tt := tYes) rfl sc_f_law_program.nd (pi_list (pv 7)) (blkOk_by (own := [("_law_fun", 10)]) (N := n_f_law_program) (sc := defScope s_f_law_program) (by decide +kernel)) (fun _ _ _ _ _ => (pg_name (i := 10) sc_f_law_program.nd rfl (Or.inl rfl))) (fun _ _ _ _ _ => pts_nil) (fun _ _ _ _ _ => (pe_c c_law_count hr (by omega) (by rfl) (pa_cons (pe_ix ix_tup (pv 10) pe_int (fun _ _ => rfl)) pa_nil)))) pa_nil)) pe_int (nomark _)) (pss_one (ps_setLc (i := 7) (own := [("_law_fun", 10)]) (g := (gName 10)) (tt := tYes) rfl sc_f_law_program.nd rfl rfl (sw_true rfl rfl rfl (by decide +kernel)) (pi_list (pv 7)) (blkOk_by (own := [("_law_fun", 10)]) (N := n_f_law_program) (sc := defScope s_f_law_program) (by decide +kernel)) (fun _ _ _ _ _ => (pg_name (i := 10) sc_f_law_program.nd rfl (Or.inl rfl))) (fun _ _ _ _ _ => pts_nil) (fun _ _ _ _ _ => (pe_tup (pa_cons (pe_ix ix_tup (pv 10) pe_int (fun _ _ => rfl)) (pa_cons (pe_ix ix_tup (pv 10) pe_int (fun _ _ => rfl)) (pa_cons (pe_slice sl_tupA (pe_ix ix_tup (pv 10) pe_int (fun _ _ => rfl)) (po_some pe_int) po_none) pa_nil))))))))
 (pss_cons (ps_set (i := 11) sc_f_law_program.nd rfl (Or.inr rfl) (pe_lc (own := [("_law_k", 2)]) (g := (gName 2)) (tt := (tTest (tOp rEq (tOp (rIxL K) (tVar 5) (tVar 2)) (tC (.int 0))))) rfl sc_f_law_program.nd (pi_range1 rfl G.n_range (pa_cons (pe_callB call_len_seq (by rfl) G.n_len PySem.boot_len (pa_cons (pv 3) pa_nil)) pa_nil)) (blkOk_by (own := [("_law_k", 2)]) (N := n_f_law_program) (sc := defScope s_f_law_program) (by decide +kernel)) (fun _ _ _ _ _ => (pg_name (i := 2) sc_f_law_program.nd rfl (Or.inl rfl))) (fun _ _ _ _ _ => (pts_one (pt_cmpR op_eq (pe_ix ix_list (pv 5) (pv 2) (fun _ _ => rfl)) pe_int (nomark _)))) (fun _ _ _ _ _ => (pv 2))))
 (pss_cons (ps_set (i := 12) sc_f_law_program.nd rfl (Or.inl rfl) (pe_callTy call_tuple_of (by rfl) G.n_tuple (by decide +kernel) (pa_cons (pe_lc (own := [("_law_k", 2)]) (g := (gName 2)) (tt := tYes) rfl sc_f_law_program.nd (pi_range1 rfl G.n_range (pa_cons (pe_op op_add pe_int (pe_c c_law_next hr (by omega) (by rfl) (pa_cons (pv 0) (pa_cons pe_int pa_nil)))) pa_nil)) (blkOk_by (own := [("_law_k", 2)]) (N := n_f_law_program) (sc := defScope s_f_law_program) (by decide +kernel)) (fun _ _ _ _ _ => (pg_name (i := 2) sc_f_law_program.nd rfl (Or.inl rfl))) (fun _ _ _ _ _ => pts_nil) (fun _ _ _ _ _ => (pe_ix ix_list (pv 11) (pe_c c_law_next hr (by omega) (by rfl) (pa_cons (pv 0) (pa_cons (pe_callB call_len_seq (by rfl) G.n_len PySem.boot_len (pa_cons (pv 11) pa_nil)) pa_nil))) (fun _ _ => rfl)))) pa_nil)))
 (pss_one (ps_ret (pe_tup (pa_cons (pv 1) (pa_cons (pe_callTy call_tuple_of (by rfl) G.n_tuple (by decide +kernel) (pa_cons (pv 7) pa_nil)) (pa_cons (pv 12) pa_nil))))))))))))))))
theorem sc_f_law_words : FnScope n_f_law_words ["_law_thing"] (defScope s_f_law_words) := ⟨rfl, rfl, rfl, by decide +kernel, rfl, by decide +kernel, by decide +kernel⟩
theorem der_f_law_words {P : Program} {w : World} {K : PySem.W.Frag} {mg : Str → Option Value} {base : Heap} {j : Nat} (n : Nat) (F : Fcts K) (G : Gx K mg) (c_law_words : Cal P w K mg base j "_law_words" (sp_law_words n K w) []) {f : Addr} {cdv : Value} {A : Around} {outer : List Env} {s : Shared} {H : Hp} {E : XK} (hr : Room j (A.deeper (envOfC "_law_words" (defScope s_f_law_words) s.heap.objs.size f cdv))) :
    PSs (cxOf CX0 P w K mg base n_f_law_words "_law_words" (defScope s_f_law_words) f cdv A outer s H E).nox (defBody s_f_law_words) (t_f_law_words K w n) :=
 (pss_cons (ps_if (pt_cmpR op_in_seq (pe_ix ix_tup (pv 0) pe_int (fun _ _ => rfl)) (pe_tup (pa_cons pe_str (pa_cons pe_str (pa_cons pe_str pa_nil)))) (by rfl)) (pss_one (ps_ret (pe_lst (pa_cons (pe_op op_add_str (pe_dget (hu_of hr) (pe_disp (pps_cons pe_str pe_str (pps_cons pe_str pe_str (pps_cons pe_str pe_str pps_nil))) (by rfl) (by rfl) (fun z => by cases z) (by decide)) (pe_ix ix_tup (pv 0) pe_int (fun _ _ => rfl)) (fun _ _ => rfl)) (pe_callTy call_str_int (by rfl) G.n_str (by decide +kernel) (pa_cons (pe_ix ix_tup (pv 0) pe_int (fun _ _ => rfl)) pa_nil))) pa_nil)))) pss_nil)
 (pss_cons (ps_set (i := 1) sc_f_law_words.nd rfl (Or.inl rfl) (pe_lst (pa_cons (pe_ix ix_tup (pv 0) pe_int (fun _ _ => rfl)) pa_nil)))
 (pss_cons (ps_for PassesOwn.never rfl (pi_tup (pe_slice sl_tupA (pv 0) (po_some pe_int) po_none)) (pg_name (i := 2) sc_f_law_words.nd rfl (Or.inl rfl)) (pss_one (ps_if (pt_not (pt_val (pe_callB call_isi' (by rfl) G.n_isinstance (by decide +kernel) (pa_cons (pv 2) (pa_cons (pe_bltn (by rfl) G.n_tuple boot_tuple rfl) pa_nil))))) (pss_one (ps_expr (pe_bm PySem.F.plainAttrs_list PySem.F.slot_list_append PySem.F.type_list_append mt_append (pv 1) (pa_cons (pe_callTy call_str_int (by rfl) G.n_str (by decide +kernel) (pa_cons (pv 2) pa_nil)) pa_nil)))) (pss_one (ps_if (PW.pt (pw_and (pt_cmpR (op_neNilT (hu_of hr)) (pv 2) (pe_tup pa_nil) (nomark _)) (pw_and1 (pt_val (pe_callB call_isi' (by rfl) G.n_isinstance (by decide +kernel) (pa_cons (pe_ix ix_tup (pv 2) pe_int (fun _ _ => rfl)) (pa_cons (pe_bltn (by rfl) G.n_str boot_str rfl) pa_nil))))))) (pss_one (ps_set (i := 1) sc_f_law_words.nd rfl (Or.inl rfl) (pe_op op_cat (pv 1) (pe_c c_law_words hr (by omega) (by rfl) (pa_cons (pv 2) pa_nil))))) (pss_cons (ps_if (pt_cmpR op_eq (pe_ix ix_tup (pv 0) pe_int (fun _ _ => rfl)) pe_str (nomark _)) (pss_one (ps_expr (pe_bm PySem.F.plainAttrs_list PySem.F.slot_list_append PySem.F.type_list_append mt_append (pv 1) (pa_cons (pe_callTy call_str_int (by rfl) G.n_str (by decide +kernel) (pa_cons (pe_callB call_len_seq (by rfl) G.n_len PySem.boot_len (pa_cons (pv 2) pa_nil)) pa_nil)) pa_nil)))) pss_nil)
 (pss_cons (ps_for PassesOwn.never rfl (pi_tup (pv 2)) (pg_name (i := 3) sc_f_law_words.nd rfl (Or.inl rfl)) (pss_one (ps_set (i := 1) sc_f_law_words.nd rfl (Or.inl rfl) (pe_op op_cat (pv 1) (pe_c c_law_words hr (by omega) (by rfl) (pa_cons (pv 3) pa_nil))))))
 (pss_one (ps_if (pt_cmpR op_ne (pe_ix ix_tup (pv 0) pe_int (fun _ _ => rfl)) pe_str (nomark _)) (pss_one (ps_expr (pe_bm PySem.F.plainAttrs_list PySem.F.slot_list_append PySem.F.type_list_append mt_append (pv 1) (pa_cons pe_str pa_nil)))) pss_nil)))))))))
 (pss_one (ps_ret (pv 1))))))
theorem sc_f_law : FnScope n_f_law ["_law_script"] (defScope s_f_law) := ⟨rfl, rfl, rfl, by decide +kernel, rfl, by decide +kernel, by decide +kernel⟩
theorem der_f_law {P : Program} {w : World} {K : PySem.W.Frag} {mg : Str → Option Value} {base : Heap} {j : Nat}  (F : Fcts K) (G : Gx K mg) (c_law_dice : Cal P w K mg base j "_law_dice" (sp_law_dice K w) []) (c_law_program : Cal P w K mg base j "_law_program" (sp_law_program K w) []) (c_law_words : Cal P w K mg base j "_law_words" (sp_law_words 9 K w) []) (c_written : Cal P w K mg base j "written" (sp_written K w) []) (c_law_like : Cal P w K mg base j "_law_like" (sp_law_like 30 K w) []) (c_read : Cal P w K mg base j "read" (sp_read K w) []) {f : Addr} {cdv : Value} {A : Around} {outer : List Env} {s : Shared} {H : Hp} {E : XK} (hr : Room j (A.deeper (envOfC "law" (defScope s_f_law) s.heap.objs.size f cdv))) :
    PSs (cxOf CX0 P w K mg base n_f_law "law" (defScope s_f_law) f cdv A outer s H E).nox (defBody s_f_law) (t_f_law K w ) :=
 (pss_cons (ps_set (i := 1) sc_f_law.nd rfl (Or.inl rfl) (pe_c c_law_dice hr (by omega) (by rfl) (pa_cons (pv 0) pa_nil)))
 (pss_cons (ps_for PassesOwn.never rfl (pi_range1 rfl G.n_range (pa_cons pe_int pa_nil)) (pg_name (i := 2) sc_f_law.nd rfl (Or.inl rfl)) (pss_cons (ps_set (i := 3) sc_f_law.nd rfl (Or.inl rfl) (pe_c c_law_program hr (by omega) (by rfl) (pa_cons (pv 1) pa_nil)))
 (pss_cons (ps_asg (pv 3) (pg_tup rfl (pgs_cons (pg_name (i := 4) sc_f_law.nd rfl (Or.inl rfl)) (pgs_cons (pg_name (i := 5) sc_f_law.nd rfl (Or.inl rfl)) (pgs_cons (pg_name (i := 6) sc_f_law.nd rfl (Or.inl rfl)) pgs_nil)))))
 (pss_cons (ps_set (i := 7) sc_f_law.nd rfl (Or.inl rfl) (pe_op op_cat (pe_lst (pa_cons pe_str (pa_cons (pe_callTy call_str_int (by rfl) G.n_str (by decide +kernel) (pa_cons (pe_callB call_len_seq (by rfl) G.n_len PySem.boot_len (pa_cons (pv 4) pa_nil)) pa_nil)) pa_nil))) (pe_lc (own := [("_law_number", 8)]) (g := (gName 8)) (tt := tYes) rfl sc_f_law.nd (pi_tup (pv 4)) (blkOk_by (own := [("_law_number", 8)]) (N := n_f_law) (sc := defScope s_f_law) (by decide +kernel)) (fun _ _ _ _ _ => (pg_name (i := 8) sc_f_law.nd rfl (Or.inl rfl))) (fun _ _ _ _ _ => pts_nil) (fun _ _ _ _ _ => (pe_callTy call_str_int (by rfl) G.n_str (by decide +kernel) (pa_cons (pv 8) pa_nil))))))
 (pss_cons (ps_for PassesOwn.never rfl (pi_tup (pv 5)) (pg_tup rfl (pgs_cons (pg_name (i := 9) sc_f_law.nd rfl (Or.inl rfl)) (pgs_cons (pg_name (i := 10) sc_f_law.nd rfl (Or.inl rfl)) (pgs_cons (pg_name (i := 11) sc_f_law.nd rfl (Or.inl rfl)) pgs_nil)))) (pss_cons (ps_set (i := 7) sc_f_law.nd rfl (Or.inl rfl) (pe_op op_cat (pv 7) (pe_lst (pa_cons pe_str (pa_cons (pe_callTy call_str_int (by rfl) G.n_str (by decide +kernel) (pa_cons (pv 9) pa_nil)) (pa_cons (pe_callTy call_str_int (by rfl) G.n_str (by decide +kernel) (pa_cons (pv 10) pa_nil)) pa_nil))))))
 (pss_cons (ps_for PassesOwn.never rfl (pi_tup (pv 11)) (pg_name (i := 12) sc_f_law.nd rfl (Or.inl rfl)) (pss_one (ps_set (i := 7) sc_f_law.nd rfl (Or.inl rfl) (pe_op op_cat (pv 7) (pe_c c_law_words hr (by omega) (by rfl) (pa_cons (pv 12) pa_nil))))))
 (pss_one (ps_expr (pe_bm PySem.F.plainAttrs_list PySem.F.slot_list_append PySem.F.type_list_append mt_append (pv 7) (pa_cons pe_str pa_nil)))))))
 (pss_cons (ps_set (i := 13) sc_f_law.nd rfl (Or.inl rfl) (pe_bm PySem.F.plainAttrs_str PySem.F.slot_str_join PySem.F.type_str_join mt_joinS pe_str (pa_cons (pe_op op_cat (pe_op op_cat (pv 7) (pe_lst (pa_cons pe_str (pa_cons (pe_callTy call_str_int (by rfl) G.n_str (by decide +kernel) (pa_cons (pe_callB call_len_seq (by rfl) G.n_len PySem.boot_len (pa_cons (pv 6) pa_nil)) pa_nil)) pa_nil)))) (pe_lc (own := [("_law_fun", 14)]) (g := (gName 14)) (tt := tYes) rfl sc_f_law.nd (pi_tup (pv 6)) (blkOk_by (own := [("_law_fun", 14)]) (N := n_f_law) (sc := defScope s_f_law) (by decide +kernel)) (fun _ _ _ _ _ => (pg_name (i := 14) sc_f_law.nd rfl (Or.inl rfl))) (fun _ _ _ _ _ => pts_nil) (fun _ _ _ _ _ => (pe_callTy call_str_int (by rfl) G.n_str (by decide +kernel) (pa_cons (pv 14) pa_nil))))) pa_nil)))
 (pss_one (ps_if (PW.pt (pw_or (pt_not (pt_val (pe_c c_law_like hr (by omega) (by rfl) (pa_cons (pe_c c_written hr (by omega) (by rfl) (pa_cons (pv 3) pa_nil)) (pa_cons (pv 13) pa_nil))))) (pw_or1 (pt_not (pt_val (pe_c c_law_like hr (by omega) (by rfl) (pa_cons (pe_c c_read hr (by omega) (by rfl) (pa_cons (pv 13) pa_nil)) (pa_cons (pv 3) pa_nil)))))))) (pss_one (ps_ret pe_bl)) pss_nil))))))))
 (pss_one (ps_ret pe_bl))))
end SD
set_option Elab.async false
set_option linter.all false
set_option maxRecDepth 100000
set_option maxHeartbeats 4000000
namespace SD
open PySem PySem.Spec PyProof.Rows L2
open C8 (Cal Met Mak pe_c pe_mk pe_mt pe_mt0 pe_gc)
open Hd
theorem cal_f_is_number {P : Program} {w : World} {K : PySem.W.Frag} {mg : Str → Option Value} {base : Heap} {j : Nat} (Fc : Fcts K) (T : Tb K w) (Tk' : Tk K w) (G : Gx K mg)  {f : Addr} {fd : FuncData} (F : FunD K "is_number" "is_number" (defArgs s_f_is_number) (defBody s_f_is_number) (defScope s_f_is_number) [] [] f fd) (m : mg "is_number" = some (.ref f)) : Cal P w K mg base (j + 1) "is_number" (sp_is_number K w) [] :=
  ⟨f, fd, ["thing"], [], fnD F sc_f_is_number (fun vs H Q E h => by obtain ⟨_, rfl, _⟩ := h; rfl) (fun cdv A outer s H vs Q E hr => der_f_is_number Fc G  hr) (fun vs H Q E h => pu_f_is_number  vs H Q E h), m, F.kp, F.bindsN fun _ _ _ _ _ _ us hl => match us, hl with | [_], _ => rfl, .nil⟩
theorem mak_m_Looker_init {P : Program} {w : World} {K : PySem.W.Frag} {mg : Str → Option Value} {base : Heap} {j : Nat} (Fc : Fcts K) (T : Tb K w) (Tk' : Tk K w) (G : Gx K mg)  {f : Addr} {fd : FuncData} (F : FunD K "__init__" "Looker.__init__" (defArgs s_m_Looker_init) (defBody s_m_Looker_init) (defScope s_m_Looker_init) [] [] f fd) (k : Mk K (He.ga K "Looker") f) (m : mg "Looker" = some (.ref (He.ga K "Looker"))) : Mak P w K mg base (j + 1) "Looker" (He.ga K "Looker") (sp_Looker_init K w) [] :=
  ⟨f, fd, ["self", "many", "params"], [], k, fnD F sc_m_Looker_init (fun vs H Q E h => by obtain ⟨_, _, _, _, _, rfl, _⟩ := h; rfl) (fun cdv A outer s H vs Q E hr => der_m_Looker_init Fc G  hr) (fun vs H Q E h => pu_m_Looker_init Fc vs H Q E h), m, F.bindsN fun _ _ _ _ _ _ us hl => match us, hl with | [_, _, _], _ => rfl, .nil⟩
theorem met_m_Looker_begin {P : Program} {w : World} {K : PySem.W.Frag} {mg : Str → Option Value} {base : Heap} {j : Nat} (Fc : Fcts K) (T : Tb K w) (Tk' : Tk K w) (G : Gx K mg) (c_is_number : Cal P w K mg base j "is_number" (sp_is_number K w) []) (c_Looker_bounds : Met P w K mg base j (He.ga K "Looker") "bounds" (sp_Looker_bounds K w) []) {f : Addr} {fd : FuncData} (F : FunD K "begin" "Looker.begin" (defArgs s_m_Looker_begin) (defBody s_m_Looker_begin) (defScope s_m_Looker_begin) [] [] f fd) (k : Meth K (He.ga K "Looker") "begin" f) : Met P w K mg base (j + 1) (He.ga K "Looker") "begin" (sp_Looker_begin K w) [] :=
  ⟨f, fd, ["self", "thing", "is_deed", "deep"], [], Fc.clLooker, k, fnD F sc_m_Looker_begin (fun vs H Q E h => by obtain ⟨_, _, _, _, _, _, _, _, _, _, _, _, _, _, _, rfl, _⟩ := h; rfl) (fun cdv A outer s H vs Q E hr => der_m_Looker_begin Fc G c_is_number c_Looker_bounds hr) (fun vs H Q E h => pu_m_Looker_begin T vs H Q E h), F.bindsN fun _ _ _ _ _ _ us hl => match us, hl with | [_, _, _, _], _ => rfl, .nil⟩
theorem met_m_Looker_bounds {P : Program} {w : World} {K : PySem.W.Frag} {mg : Str → Option Value} {base : Heap} {j : Nat} (Fc : Fcts K) (T : Tb K w) (Tk' : Tk K w) (G : Gx K mg)  {f : Addr} {fd : FuncData} (F : FunD K "bounds" "Looker.bounds" (defArgs s_m_Looker_bounds) (defBody s_m_Looker_bounds) (defScope s_m_Looker_bounds) [] [] f fd) (k : Meth K (He.ga K "Looker") "bounds" f) : Met P w K mg base (j + 1) (He.ga K "Looker") "bounds" (sp_Looker_bounds K w) [] :=
  ⟨f, fd, ["self", "kind", "part", "thing", "at"], [], Fc.clLooker, k, fnD F sc_m_Looker_bounds (fun vs H Q E h => by obtain ⟨_, _, _, _, _, _, _, _, _, _, _, _, _, _, rfl, _⟩ := h; rfl) (fun cdv A outer s H vs Q E hr => der_m_Looker_bounds Fc G  hr) (fun vs H Q E h => pu_m_Looker_bounds  vs H Q E h), F.bindsN fun _ _ _ _ _ _ us hl => match us, hl with | [_, _, _, _, _], _ => rfl, .nil⟩
theorem met_m_Looker_part {P : Program} {w : World} {K : PySem.W.Frag} {mg : Str → Option Value} {base : Heap} {j : Nat} (n : Nat) (Fc : Fcts K) (T : Tb K w) (Tk' : Tk K w) (G : Gx K mg) (c_Looker_begin : Met P w K mg base j (He.ga K "Looker") "begin" (sp_Looker_begin K w) []) (c_Looker_part : Met P w K mg base j (He.ga K "Looker") "part" (sp_Looker_part n K w) []) {f : Addr} {fd : FuncData} (F : FunD K "part" "Looker.part" (defArgs s_m_Looker_part) (defBody s_m_Looker_part) (defScope s_m_Looker_part) [] [] f fd) (k : Meth K (He.ga K "Looker") "part" f) : Met P w K mg base (j + 1) (He.ga K "Looker") "part" (sp_Looker_part (n + 1) K w) [] :=
  ⟨f, fd, ["self", "part", "deep"], [], Fc.clLooker, k, fnD F sc_m_Looker_part (fun vs H Q E h => by obtain ⟨_, _, _, _, _, _, _, _, _, _, _, rfl, _⟩ := h; rfl) (fun cdv A outer s H vs Q E hr => der_m_Looker_part n Fc G c_Looker_begin c_Looker_part hr) (fun vs H Q E h => pu_m_Looker_part n vs H Q E h), F.bindsN fun _ _ _ _ _ _ us hl => match us, hl with | [_, _, _], _ => rfl, .nil⟩
theorem met_m_Looker_body {P : Program} {w : World} {K : PySem.W.Frag} {mg : Str → Option Value} {base : Heap} {j : Nat} (n : Nat) (Fc : Fcts K) (T : Tb K w) (Tk' : Tk K w) (G : Gx K mg) (c_Looker_begin : Met P w K mg base j (He.ga K "Looker") "begin" (sp_Looker_begin K w) []) (c_Looker_part : Met P w K mg base j (He.ga K "Looker") "part" (sp_Looker_part n K w) []) (c_Looker_body : Met P w K mg base j (He.ga K "Looker") "body" (sp_Looker_body n K w) []) {f : Addr} {fd : FuncData} (F : FunD K "body" "Looker.body" (defArgs s_m_Looker_body) (defBody s_m_Looker_body) (defScope s_m_Looker_body) [] [] f fd) (k : Meth K (He.ga K "Looker") "body" f) : Met P w K mg base (j + 1) (He.ga K "Looker") "body" (sp_Looker_body (n + 1) K w) [] :=
  ⟨f, fd, ["self", "body", "deep"], [], Fc.clLooker, k, fnD F sc_m_Looker_body (fun vs H Q E h => by obtain ⟨_, _, _, _, _, _, _, _, _, _, _, _, rfl, _⟩ := h; rfl) (fun cdv A outer s H vs Q E hr => der_m_Looker_body n Fc G c_Looker_begin c_Looker_part c_Looker_body hr) (fun vs H Q E h => pu_m_Looker_body n vs H Q E h), F.bindsN fun _ _ _ _ _ _ us hl => match us, hl with | [_, _, _], _ => rfl, .nil⟩
theorem cal_f_need_head {P : Program} {w : World} {K : PySem.W.Frag} {mg : Str → Option Value} {base : Heap} {j : Nat} (Fc : Fcts K) (T : Tb K w) (Tk' : Tk K w) (G : Gx K mg)  {f : Addr} {fd : FuncData} (F : FunD K "need_head" "need_head" (defArgs s_f_need_head) (defBody s_f_need_head) (defScope s_f_need_head) [] [] f fd) (m : mg "need_head" = some (.ref f)) : Cal P w K mg base (j + 1) "need_head" (sp_need_head K w) [] :=
  ⟨f, fd, ["program"], [], fnD F sc_f_need_head (fun vs H Q E h => by obtain ⟨_, _, rfl, _⟩ := h; rfl) (fun cdv A outer s H vs Q E hr => der_f_need_head Fc G  hr) (fun vs H Q E h => pu_f_need_head  vs H Q E h), m, F.kp, F.bindsN fun _ _ _ _ _ _ us hl => match us, hl with | [_], _ => rfl, .nil⟩
theorem cal_f_need_program {P : Program} {w : World} {K : PySem.W.Frag} {mg : Str → Option Value} {base : Heap} {j : Nat} (Fc : Fcts K) (T : Tb K w) (Tk' : Tk K w) (G : Gx K mg) (c_need_head : Cal P w K mg base j "need_head" (sp_need_head K w) []) {jm_Looker : Nat} (hj_Looker : jm_Looker + 1 ≤ j) (c_Looker : Mak P w K mg base jm_Looker "Looker" (He.ga K "Looker") (sp_Looker_init K w) []) (c_Looker_body : Met P w K mg base j (He.ga K "Looker") "body" (sp_Looker_body 9 K w) []) {f : Addr} {fd : FuncData} (F : FunD K "need_program" "need_program" (defArgs s_f_need_program) (defBody s_f_need_program) (defScope s_f_need_program) [] [] f fd) (m : mg "need_program" = some (.ref f)) : Cal P w K mg base (j + 1) "need_program" (sp_need_program K w) [] :=
  ⟨f, fd, ["program"], [], fnD F sc_f_need_program (fun vs H Q E h => by obtain ⟨_, _, _, rfl, _⟩ := h; rfl) (fun cdv A outer s H vs Q E hr => der_f_need_program Fc G c_need_head hj_Looker c_Looker c_Looker_body hr) (fun vs H Q E h => pu_f_need_program  vs H Q E h), m, F.kp, F.bindsN fun _ _ _ _ _ _ us hl => match us, hl with | [_], _ => rfl, .nil⟩
theorem cal_f_part_words {P : Program} {w : World} {K : PySem.W.Frag} {mg : Str → Option Value} {base : Heap} {j : Nat} (n : Nat) (Fc : Fcts K) (T : Tb K w) (Tk' : Tk K w) (G : Gx K mg) (c_part_words : Cal P w K mg base j "part_words" (sp_part_words n K w) []) {f : Addr} {fd : FuncData} (F : FunD K "part_words" "part_words" (defArgs s_f_part_words) (defBody s_f_part_words) (defScope s_f_part_words) [] [] f fd) (m : mg "part_words" = some (.ref f)) : Cal P w K mg base (j + 1) "part_words" (sp_part_words (n + 1) K w) [] :=
  ⟨f, fd, ["part"], [], fnD F sc_f_part_words (fun vs H Q E h => by obtain ⟨_, _, _, _, _, rfl, _⟩ := h; rfl) (fun cdv A outer s H vs Q E hr => der_f_part_words n Fc G c_part_words hr) (fun vs H Q E h => pu_f_part_words T n vs H Q E h), m, F.kp, F.bindsN fun _ _ _ _ _ _ us hl => match us, hl with | [_], _ => rfl, .nil⟩
theorem cal_f_body_words {P : Program} {w : World} {K : PySem.W.Frag} {mg : Str → Option Value} {base : Heap} {j : Nat} (n : Nat) (Fc : Fcts K) (T : Tb K w) (Tk' : Tk K w) (G : Gx K mg) (c_part_words : Cal P w K mg base j "part_words" (sp_part_words 8 K w) []) (c_body_words : Cal P w K mg base j "body_words" (sp_body_words n K w) []) {f : Addr} {fd : FuncData} (F : FunD K "body_words" "body_words" (defArgs s_f_body_words) (defBody s_f_body_words) (defScope s_f_body_words) [] [] f fd) (m : mg "body_words" = some (.ref f)) : Cal P w K mg base (j + 1) "body_words" (sp_body_words (n + 1) K w) [] :=
  ⟨f, fd, ["body"], [], fnD F sc_f_body_words (fun vs H Q E h => by obtain ⟨_, _, _, _, _, _, _, rfl, _⟩ := h; rfl) (fun cdv A outer s H vs Q E hr => der_f_body_words n Fc G c_part_words c_body_words hr) (fun vs H Q E h => pu_f_body_words T n vs H Q E h), m, F.kp, F.bindsN fun _ _ _ _ _ _ us hl => match us, hl with | [_], _ => rfl, .nil⟩
theorem cal_f_written {P : Program} {w : World} {K : PySem.W.Frag} {mg : Str → Option Value} {base : Heap} {j : Nat} (Fc : Fcts K) (T : Tb K w) (Tk' : Tk K w) (G : Gx K mg) (c_need_program : Cal P w K mg base j "need_program" (sp_need_program K w) []) (c_body_words : Cal P w K mg base j "body_words" (sp_body_words 9 K w) []) {f : Addr} {fd : FuncData} (F : FunD K "written" "written" (defArgs s_f_written) (defBody s_f_written) (defScope s_f_written) [] [] f fd) (m : mg "written" = some (.ref f)) : Cal P w K mg base (j + 1) "written" (sp_written K w) [] :=
  ⟨f, fd, ["program"], [], fnD F sc_f_written (fun vs H Q E h => by obtain ⟨_, _, _, rfl, _⟩ := h; rfl) (fun cdv A outer s H vs Q E hr => der_f_written Fc G c_need_program c_body_words hr) (fun vs H Q E h => pu_f_written  vs H Q E h), m, F.kp, F.bindsN fun _ _ _ _ _ _ us hl => match us, hl with | [_], _ => rfl, .nil⟩
theorem cal_f_number_of {P : Program} {w : World} {K : PySem.W.Frag} {mg : Str → Option Value} {base : Heap} {j : Nat} (Fc : Fcts K) (T : Tb K w) (Tk' : Tk K w) (G : Gx K mg)  {f : Addr} {fd : FuncData} (F : FunD K "number_of" "number_of" (defArgs s_f_number_of) (defBody s_f_number_of) (defScope s_f_number_of) [] [] f fd) (m : mg "number_of" = some (.ref f)) : Cal P w K mg base (j + 1) "number_of" (sp_number_of K w) [] :=
  ⟨f, fd, ["word"], [], fnD F sc_f_number_of (fun vs H Q E h => by obtain ⟨_, _, rfl, _⟩ := h; rfl) (fun cdv A outer s H vs Q E hr => der_f_number_of Fc G  hr) (fun vs H Q E h => pu_f_number_of  vs H Q E h), m, F.kp, F.bindsN fun _ _ _ _ _ _ us hl => match us, hl with | [_], _ => rfl, .nil⟩
theorem mak_m_Reader_init {P : Program} {w : World} {K : PySem.W.Frag} {mg : Str → Option Value} {base : Heap} {j : Nat} (Fc : Fcts K) (T : Tb K w) (Tk' : Tk K w) (G : Gx K mg)  {f : Addr} {fd : FuncData} (F : FunD K "__init__" "Reader.__init__" (defArgs s_m_Reader_init) (defBody s_m_Reader_init) (defScope s_m_Reader_init) [] [] f fd) (k : Mk K (He.ga K "Reader") f) (m : mg "Reader" = some (.ref (He.ga K "Reader"))) : Mak P w K mg base (j + 1) "Reader" (He.ga K "Reader") (sp_Reader_init K w) [] :=
  ⟨f, fd, ["self", "text"], [], k, fnD F sc_m_Reader_init (fun vs H Q E h => by obtain ⟨_, _, _, _, rfl, _⟩ := h; rfl) (fun cdv A outer s H vs Q E hr => der_m_Reader_init Fc G  hr) (fun vs H Q E h => pu_m_Reader_init Fc vs H Q E h), m, F.bindsN fun _ _ _ _ _ _ us hl => match us, hl with | [_, _], _ => rfl, .nil⟩
theorem met_m_Reader_word {P : Program} {w : World} {K : PySem.W.Frag} {mg : Str → Option Value} {base : Heap} {j : Nat} (Fc : Fcts K) (T : Tb K w) (Tk' : Tk K w) (G : Gx K mg)  {f : Addr} {fd : FuncData} (F : FunD K "word" "Reader.word" (defArgs s_m_Reader_word) (defBody s_m_Reader_word) (defScope s_m_Reader_word) [] [] f fd) (k : Meth K (He.ga K "Reader") "word" f) : Met P w K mg base (j + 1) (He.ga K "Reader") "word" (sp_Reader_word K w) [] :=
  ⟨f, fd, ["self", "some"], [], Fc.clReader, k, fnD F sc_m_Reader_word (fun vs H Q E h => by obtain ⟨_, _, _, _, _, _, rfl, _⟩ := h; rfl) (fun cdv A outer s H vs Q E hr => der_m_Reader_word Fc G  hr) (fun vs H Q E h => pu_m_Reader_word  vs H Q E h), F.bindsN fun _ _ _ _ _ _ us hl => match us, hl with | [_, _], _ => rfl, .nil⟩
theorem met_m_Reader_number {P : Program} {w : World} {K : PySem.W.Frag} {mg : Str → Option Value} {base : Heap} {j : Nat} (Fc : Fcts K) (T : Tb K w) (Tk' : Tk K w) (G : Gx K mg) (c_Reader_word : Met P w K mg base j (He.ga K "Reader") "word" (sp_Reader_word K w) []) (c_number_of : Cal P w K mg base j "number_of" (sp_number_of K w) []) {f : Addr} {fd : FuncData} (F : FunD K "number" "Reader.number" (defArgs s_m_Reader_number) (defBody s_m_Reader_number) (defScope s_m_Reader_number) [] [] f fd) (k : Meth K (He.ga K "Reader") "number" f) : Met P w K mg base (j + 1) (He.ga K "Reader") "number" (sp_Reader_number K w) [] :=
  ⟨f, fd, ["self"], [], Fc.clReader, k, fnD F sc_m_Reader_number (fun vs H Q E h => by obtain ⟨_, _, _, _, _, rfl, _⟩ := h; rfl) (fun cdv A outer s H vs Q E hr => der_m_Reader_number Fc G c_Reader_word c_number_of hr) (fun vs H Q E h => pu_m_Reader_number  vs H Q E h), F.bindsN fun _ _ _ _ _ _ us hl => match us, hl with | [_], _ => rfl, .nil⟩
theorem met_m_Reader_numbers {P : Program} {w : World} {K : PySem.W.Frag} {mg : Str → Option Value} {base : Heap} {j : Nat} (Fc : Fcts K) (T : Tb K w) (Tk' : Tk K w) (G : Gx K mg) (c_Reader_number : Met P w K mg base j (He.ga K "Reader") "number" (sp_Reader_number K w) []) {f : Addr} {fd : FuncData} (F : FunD K "numbers" "Reader.numbers" (defArgs s_m_Reader_numbers) (defBody s_m_Reader_numbers) (defScope s_m_Reader_numbers) [] [] f fd) (k : Meth K (He.ga K "Reader") "numbers" f) : Met P w K mg base (j + 1) (He.ga K "Reader") "numbers" (sp_Reader_numbers K w) [] :=
  ⟨f, fd, ["self"], [], Fc.clReader, k, fnD F sc_m_Reader_numbers (fun vs H Q E h => by obtain ⟨_, _, _, _, _, _, rfl, _⟩ := h; rfl) (fun cdv A outer s H vs Q E hr => der_m_Reader_numbers Fc G c_Reader_number hr) (fun vs H Q E h => pu_m_Reader_numbers  vs H Q E h), F.bindsN fun _ _ _ _ _ _ us hl => match us, hl with | [_], _ => rfl, .nil⟩
theorem met_m_Reader_part {P : Program} {w : World} {K : PySem.W.Frag} {mg : Str → Option Value} {base : Heap} {j : Nat} (n : Nat) (Fc : Fcts K) (T : Tb K w) (Tk' : Tk K w) (G : Gx K mg) (c_Reader_word : Met P w K mg base j (He.ga K "Reader") "word" (sp_Reader_word K w) []) (c_number_of : Cal P w K mg base j "number_of" (sp_number_of K w) []) (c_Reader_part : Met P w K mg base j (He.ga K "Reader") "part" (sp_Reader_part n K w) []) {f : Addr} {fd : FuncData} (F : FunD K "part" "Reader.part" (defArgs s_m_Reader_part) (defBody s_m_Reader_part) (defScope s_m_Reader_part) [] [] f fd) (k : Meth K (He.ga K "Reader") "part" f) : Met P w K mg base (j + 1) (He.ga K "Reader") "part" (sp_Reader_part (n + 1) K w) [] :=
  ⟨f, fd, ["self"], [], Fc.clReader, k, fnD F sc_m_Reader_part (fun vs H Q E h => by obtain ⟨_, _, _, _, _, _, _, _, rfl, _⟩ := h; rfl) (fun cdv A outer s H vs Q E hr => der_m_Reader_part n Fc G c_Reader_word c_number_of c_Reader_part hr) (fun vs H Q E h => pu_m_Reader_part T n vs H Q E h), F.bindsN fun _ _ _ _ _ _ us hl => match us, hl with | [_], _ => rfl, .nil⟩
theorem met_m_Reader_piece {P : Program} {w : World} {K : PySem.W.Frag} {mg : Str → Option Value} {base : Heap} {j : Nat} (n : Nat) (Fc : Fcts K) (T : Tb K w) (Tk' : Tk K w) (G : Gx K mg) (c_Reader_part : Met P w K mg base j (He.ga K "Reader") "part" (sp_Reader_part 8 K w) []) (c_Reader_body : Met P w K mg base j (He.ga K "Reader") "body" (sp_Reader_body n K w) []) (c_Reader_number : Met P w K mg base j (He.ga K "Reader") "number" (sp_Reader_number K w) []) {f : Addr} {fd : FuncData} (F : FunD K "piece" "Reader.piece" (defArgs s_m_Reader_piece) (defBody s_m_Reader_piece) (defScope s_m_Reader_piece) [] [] f fd) (k : Meth K (He.ga K "Reader") "piece" f) : Met P w K mg base (j + 1) (He.ga K "Reader") "piece" (sp_Reader_piece (n + 1) K w) [] :=
  ⟨f, fd, ["self", "kind"], [], Fc.clReader, k, fnD F sc_m_Reader_piece (fun vs H Q E h => by obtain ⟨_, _, _, _, _, _, _, _, _, _, _, rfl, _⟩ := h; rfl) (fun cdv A outer s H vs Q E hr => der_m_Reader_piece n Fc G c_Reader_part c_Reader_body c_Reader_number hr) (fun vs H Q E h => pu_m_Reader_piece n vs H Q E h), F.bindsN fun _ _ _ _ _ _ us hl => match us, hl with | [_, _], _ => rfl, .nil⟩
theorem met_m_Reader_body {P : Program} {w : World} {K : PySem.W.Frag} {mg : Str → Option Value} {base : Heap} {j : Nat} (n : Nat) (Fc : Fcts K) (T : Tb K w) (Tk' : Tk K w) (G : Gx K mg) (c_Reader_word : Met P w K mg base j (He.ga K "Reader") "word" (sp_Reader_word K w) []) (c_Reader_piece : Met P w K mg base j (He.ga K "Reader") "piece" (sp_Reader_piece n K w) []) {f : Addr} {fd : FuncData} (F : FunD K "body" "Reader.body" (defArgs s_m_Reader_body) (defBody s_m_Reader_body) (defScope s_m_Reader_body) [] [] f fd) (k : Meth K (He.ga K "Reader") "body" f) : Met P w K mg base (j + 1) (He.ga K "Reader") "body" (sp_Reader_body (n + 1) K w) [] :=
  ⟨f, fd, ["self"], [], Fc.clReader, k, fnD F sc_m_Reader_body (fun vs H Q E h => by obtain ⟨_, _, _, _, _, _, _, _, _, rfl, _⟩ := h; rfl) (fun cdv A outer s H vs Q E hr => der_m_Reader_body n Fc G c_Reader_word c_Reader_piece hr) (fun vs H Q E h => pu_m_Reader_body T Tk' n vs H Q E h), F.bindsN fun _ _ _ _ _ _ us hl => match us, hl with | [_], _ => rfl, .nil⟩
theorem cal_f_read {P : Program} {w : World} {K : PySem.W.Frag} {mg : Str → Option Value} {base : Heap} {j : Nat} (Fc : Fcts K) (T : Tb K w) (Tk' : Tk K w) (G : Gx K mg) {jm_Reader : Nat} (hj_Reader : jm_Reader + 1 ≤ j) (c_Reader : Mak P w K mg base jm_Reader "Reader" (He.ga K "Reader") (sp_Reader_init K w) []) (c_Reader_word : Met P w K mg base j (He.ga K "Reader") "word" (sp_Reader_word K w) []) (c_Reader_numbers : Met P w K mg base j (He.ga K "Reader") "numbers" (sp_Reader_numbers K w) []) (c_Reader_number : Met P w K mg base j (He.ga K "Reader") "number" (sp_Reader_number K w) []) (c_Reader_body : Met P w K mg base j (He.ga K "Reader") "body" (sp_Reader_body 18 K w) []) (c_need_program : Cal P w K mg base j "need_program" (sp_need_program K w) []) {f : Addr} {fd : FuncData} (F : FunD K "read" "read" (defArgs s_f_read) (defBody s_f_read) (defScope s_f_read) [] [] f fd) (m : mg "read" = some (.ref f)) : Cal P w K mg base (j + 1) "read" (sp_read K w) [] :=
  ⟨f, fd, ["text"], [], fnD F sc_f_read (fun vs H Q E h => by obtain ⟨_, _, rfl, _⟩ := h; rfl) (fun cdv A outer s H vs Q E hr => der_f_read Fc G hj_Reader c_Reader c_Reader_word c_Reader_numbers c_Reader_number c_Reader_body c_need_program hr) (fun vs H Q E h => pu_f_read  vs H Q E h), m, F.kp, F.bindsN fun _ _ _ _ _ _ us hl => match us, hl with | [_], _ => rfl, .nil⟩
theorem cal_f_law_dice {P : Program} {w : World} {K : PySem.W.Frag} {mg : Str → Option Value} {base : Heap} {j : Nat} (Fc : Fcts K) (T : Tb K w) (Tk' : Tk K w) (G : Gx K mg)  {f : Addr} {fd : FuncData} (F : FunD K "_law_dice" "_law_dice" (defArgs s_f_law_dice) (defBody s_f_law_dice) (defScope s_f_law_dice) [] [] f fd) (m : mg "_law_dice" = some (.ref f)) : Cal P w K mg base (j + 1) "_law_dice" (sp_law_dice K w) [] :=
  ⟨f, fd, ["_law_script"], [], fnD F sc_f_law_dice (fun vs H Q E h => by obtain ⟨_, _, rfl, _⟩ := h; rfl) (fun cdv A outer s H vs Q E hr => der_f_law_dice Fc G  hr) (fun vs H Q E h => pu_f_law_dice  vs H Q E h), m, F.kp, F.bindsN fun _ _ _ _ _ _ us hl => match us, hl with | [_], _ => rfl, .nil⟩
theorem cal_f_law_next {P : Program} {w : World} {K : PySem.W.Frag} {mg : Str → Option Value} {base : Heap} {j : Nat} (Fc : Fcts K) (T : Tb K w) (Tk' : Tk K w) (G : Gx K mg)  {f : Addr} {fd : FuncData} (F : FunD K "_law_next" "_law_next" (defArgs s_f_law_next) (defBody s_f_law_next) (defScope s_f_law_next) [] [] f fd) (m : mg "_law_next" = some (.ref f)) : Cal P w K mg base (j + 1) "_law_next" (sp_law_next K w) [] :=
  ⟨f, fd, ["_law_dice_here", "_law_many"], [], fnD F sc_f_law_next (fun vs H Q E h => by obtain ⟨_, _, _, _, _, _, _, _, rfl, _⟩ := h; rfl) (fun cdv A outer s H vs Q E hr => der_f_law_next Fc G  hr) (fun vs H Q E h => pu_f_law_next  vs H Q E h), m, F.kp, F.bindsN fun _ _ _ _ _ _ us hl => match us, hl with | [_, _], _ => rfl, .nil⟩
theorem cal_f_law_like {P : Program} {w : World} {K : PySem.W.Frag} {mg : Str → Option Value} {base : Heap} {j : Nat} (n : Nat) (Fc : Fcts K) (T : Tb K w) (Tk' : Tk K w) (G : Gx K mg) (c_law_like : Cal P w K mg base j "_law_like" (sp_law_like n K w) []) {f : Addr} {fd : FuncData} (F : FunD K "_law_like" "_law_like" (defArgs s_f_law_like) (defBody s_f_law_like) (defScope s_f_law_like) [] [] f fd) (m : mg "_law_like" = some (.ref f)) : Cal P w K mg base (j + 1) "_law_like" (sp_law_like (n + 1) K w) [] :=
  ⟨f, fd, ["_law_found", "_law_due"], [], fnD F sc_f_law_like (fun vs H Q E h => by obtain ⟨_, _, _, rfl, _⟩ := h; rfl) (fun cdv A outer s H vs Q E hr => der_f_law_like n Fc G c_law_like hr) (fun vs H Q E h => pu_f_law_like n vs H Q E h), m, F.kp, F.bindsN fun _ _ _ _ _ _ us hl => match us, hl with | [_, _], _ => rfl, .nil⟩
theorem cal_f_law_part {P : Program} {w : World} {K : PySem.W.Frag} {mg : Str → Option Value} {base : Heap} {j : Nat} (n : Nat) (Fc : Fcts K) (T : Tb K w) (Tk' : Tk K w) (G : Gx K mg) (c_law_next : Cal P w K mg base j "_law_next" (sp_law_next K w) []) (c_law_part : Cal P w K mg base j "_law_part" (sp_law_part n K w) []) {f : Addr} {fd : FuncData} (F : FunD K "_law_part" "_law_part" (defArgs s_f_law_part) (defBody s_f_law_part) (defScope s_f_law_part) [] [] f fd) (m : mg "_law_part" = some (.ref f)) : Cal P w K mg base (j + 1) "_law_part" (sp_law_part (n + 1) K w) [] :=
  ⟨f, fd, ["_law_d", "_law_names", "_law_cells", "_law_deep"], [], fnD F sc_f_law_part (fun vs H Q E h => by obtain ⟨_, _, _, _, _, _, _, rfl, _⟩ := h; rfl) (fun cdv A outer s H vs Q E hr => der_f_law_part n Fc G c_law_next c_law_part hr) (fun vs H Q E h => pu_f_law_part n vs H Q E h), m, F.kp, F.bindsN fun _ _ _ _ _ _ us hl => match us, hl with | [_, _, _, _], _ => rfl, .nil⟩
theorem cal_f_law_body {P : Program} {w : World} {K : PySem.W.Frag} {mg : Str → Option Value} {base : Heap} {j : Nat} (n : Nat) (Fc : Fcts K) (T : Tb K w) (Tk' : Tk K w) (G : Gx K mg) (c_law_next : Cal P w K mg base j "_law_next" (sp_law_next K w) []) (c_law_part : Cal P w K mg base j "_law_part" (sp_law_part 4 K w) []) (c_law_body : Cal P w K mg base j "_law_body" (sp_law_body n K w) []) {f : Addr} {fd : FuncData} (F : FunD K "_law_body" "_law_body" (defArgs s_f_law_body) (defBody s_f_law_body) (defScope s_f_law_body) [] [] f fd) (m : mg "_law_body" = some (.ref f)) : Cal P w K mg base (j + 1) "_law_body" (sp_law_body (n + 1) K w) [] :=
  ⟨f, fd, ["_law_d", "_law_s", "_law_deep", "_law_most"], [], fnD F sc_f_law_body (fun vs H Q E h => by obtain ⟨_, _, _, _, _, _, _, _, _, _, _, rfl, _⟩ := h; rfl) (fun cdv A outer s H vs Q E hr => der_f_law_body n Fc G c_law_next c_law_part c_law_body hr) (fun vs H Q E h => pu_f_law_body n vs H Q E h), m, F.kp, F.bindsN fun _ _ _ _ _ _ us hl => match us, hl with | [_, _, _, _], _ => rfl, .nil⟩
theorem cal_f_law_count {P : Program} {w : World} {K : PySem.W.Frag} {mg : Str → Option Value} {base : Heap} {j : Nat} (n : Nat) (Fc : Fcts K) (T : Tb K w) (Tk' : Tk K w) (G : Gx K mg) (c_law_count : Cal P w K mg base j "_law_count" (sp_law_count n K w) []) {f : Addr} {fd : FuncData} (F : FunD K "_law_count" "_law_count" (defArgs s_f_law_count) (defBody s_f_law_count) (defScope s_f_law_count) [] [] f fd) (m : mg "_law_count" = some (.ref f)) : Cal P w K mg base (j + 1) "_law_count" (sp_law_count (n + 1) K w) [] :=
  ⟨f, fd, ["_law_thing"], [], fnD F sc_f_law_count (fun vs H Q E h => by obtain ⟨_, _, _, rfl, _⟩ := h; rfl) (fun cdv A outer s H vs Q E hr => der_f_law_count n Fc G c_law_count hr) (fun vs H Q E h => pu_f_law_count n vs H Q E h), m, F.kp, F.bindsN fun _ _ _ _ _ _ us hl => match us, hl with | [_], _ => rfl, .nil⟩
theorem cal_f_law_program {P : Program} {w : World} {K : PySem.W.Frag} {mg : Str → Option Value} {base : Heap} {j : Nat} (Fc : Fcts K) (T : Tb K w) (Tk' : Tk K w) (G : Gx K mg) (c_law_next : Cal P w K mg base j "_law_next" (sp_law_next K w) []) (c_law_body : Cal P w K mg base j "_law_body" (sp_law_body 5 K w) []) (c_law_count : Cal P w K mg base j "_law_count" (sp_law_count 20 K w) []) {f : Addr} {fd : FuncData} (F : FunD K "_law_program" "_law_program" (defArgs s_f_law_program) (defBody s_f_law_program) (defScope s_f_law_program) [] [] f fd) (m : mg "_law_program" = some (.ref f)) : Cal P w K mg base (j + 1) "_law_program" (sp_law_program K w) [] :=
  ⟨f, fd, ["_law_d"], [], fnD F sc_f_law_program (fun vs H Q E h => by obtain ⟨_, _, _, _, rfl, _⟩ := h; rfl) (fun cdv A outer s H vs Q E hr => der_f_law_program Fc G c_law_next c_law_body c_law_count hr) (fun vs H Q E h => pu_f_law_program  vs H Q E h), m, F.kp, F.bindsN fun _ _ _ _ _ _ us hl => match us, hl with | [_], _ => rfl, .nil⟩
theorem cal_f_law_words {P : Program} {w : World} {K : PySem.W.Frag} {mg : Str → Option Value} {base : Heap} {j : Nat} (n : Nat) (Fc : Fcts K) (T : Tb K w) (Tk' : Tk K w) (G : Gx K mg) (c_law_words : Cal P w K mg base j "_law_words" (sp_law_words n K w) []) {f : Addr} {fd : FuncData} (F : FunD K "_law_words" "_law_words" (defArgs s_f_law_words) (defBody s_f_law_words) (defScope s_f_law_words) [] [] f fd) (m : mg "_law_words" = some (.ref f)) : Cal P w K mg base (j + 1) "_law_words" (sp_law_words (n + 1) K w) [] :=
  ⟨f, fd, ["_law_thing"], [], fnD F sc_f_law_words (fun vs H Q E h => by obtain ⟨_, _, _, _, _, _, rfl, _⟩ := h; rfl) (fun cdv A outer s H vs Q E hr => der_f_law_words n Fc G c_law_words hr) (fun vs H Q E h => pu_f_law_words n vs H Q E h), m, F.kp, F.bindsN fun _ _ _ _ _ _ us hl => match us, hl with | [_], _ => rfl, .nil⟩
theorem ok_law {P : Program} {w : World} {K : PySem.W.Frag} {mg : Str → Option Value} {base : Heap} {j : Nat} (Fc : Fcts K) (T : Tb K w) (Tk' : Tk K w) (G : Gx K mg) (c_law_dice : Cal P w K mg base j "_law_dice" (sp_law_dice K w) []) (c_law_program : Cal P w K mg base j "_law_program" (sp_law_program K w) []) (c_law_words : Cal P w K mg base j "_law_words" (sp_law_words 9 K w) []) (c_written : Cal P w K mg base j "written" (sp_written K w) []) (c_law_like : Cal P w K mg base j "_law_like" (sp_law_like 30 K w) []) (c_read : Cal P w K mg base j "read" (sp_read K w) []) {f : Addr} {fd : FuncData} (F : FunD K "law" "law" (defArgs s_f_law) (defBody s_f_law) (defScope s_f_law) [] [] f fd) : FnOk P w K mg base CX0 (j + 1) f fd ["_law_script"] (sp_law K w) :=
  fnD F sc_f_law (fun vs H Q E h => by obtain ⟨_, _, rfl, _⟩ := h; rfl) (fun cdv A outer s H vs Q E hr => der_f_law Fc G c_law_dice c_law_program c_law_words c_written c_law_like c_read hr) (fun vs H Q E h => pu_f_law  vs H Q E h)
end SD
set_option Elab.async false
set_option linter.all false
set_option maxRecDepth 100000
set_option maxHeartbeats 4000000
namespace SD
open PySem PySem.Spec PyProof.Rows L2
open C8 (Cal Met Mak pe_c pe_mk pe_mt pe_mt0 pe_gc)
open Hd
theorem sp0_m_Looker_part {K : PySem.W.Frag} {w : World} {vs : List V} {H : Hp} {Q : VK} {E : XK} (h : sp_Looker_part 0 K w vs H Q E) : False := by
  obtain ⟨_, _, _, _, _, _, _, _, p, _, _, _, hd, _⟩ := h; cases p <;> simp [Pt.dp] at hd
theorem rec_part {P : Program} {w : World} {K : PySem.W.Frag} {mg : Str → Option Value} {base : Heap} {j : Nat} (Fc : Fcts K) (T : Tb K w) (Tk' : Tk K w) (G : Gx K mg) (c_Looker_begin : Met P w K mg base j (He.ga K "Looker") "begin" (sp_Looker_begin K w) []) {f : Addr} {fd : FuncData} (F : FunD K "part" "Looker.part" (defArgs s_m_Looker_part) (defBody s_m_Looker_part) (defScope s_m_Looker_part) [] [] f fd) (k : Meth K (He.ga K "Looker") "part" f) : ∀ n, Met P w K mg base (j + n + 1) (He.ga K "Looker") "part" (sp_Looker_part n K w) []
  | 0 => ⟨f, fd, ["self", "part", "deep"], [], Fc.clLooker, k, FunD.ok F sc_m_Looker_part (fun vs H Q E h => (sp0_m_Looker_part h).elim) (fun cdv A outer s H vs Q E hr h => (sp0_m_Looker_part h).elim), F.bindsN fun _ _ _ _ _ _ us hl => match us, hl with | [_, _, _], _ => rfl, .nil⟩
  | n + 1 => met_m_Looker_part n Fc T Tk' G (mono_met c_Looker_begin (by omega)) (rec_part Fc T Tk' G c_Looker_begin F k n) F k
theorem sp0_m_Looker_body {K : PySem.W.Frag} {w : World} {vs : List V} {H : Hp} {Q : VK} {E : XK} (h : sp_Looker_body 0 K w vs H Q E) : False := by
  obtain ⟨_, _, _, _, _, _, _, _, b, _, _, _, _, hd, _⟩ := h; exact absurd hd (Nat.not_lt_zero _)
theorem rec_lbody {P : Program} {w : World} {K : PySem.W.Frag} {mg : Str → Option Value} {base : Heap} {j : Nat} (Fc : Fcts K) (T : Tb K w) (Tk' : Tk K w) (G : Gx K mg) (c_Looker_begin : Met P w K mg base j (He.ga K "Looker") "begin" (sp_Looker_begin K w) []) (c_Looker_part : ∀ n, Met P w K mg base (j + n + 1) (He.ga K "Looker") "part" (sp_Looker_part n K w) []) {f : Addr} {fd : FuncData} (F : FunD K "body" "Looker.body" (defArgs s_m_Looker_body) (defBody s_m_Looker_body) (defScope s_m_Looker_body) [] [] f fd) (k : Meth K (He.ga K "Looker") "body" f) : ∀ n, Met P w K mg base (j + n + 1) (He.ga K "Looker") "body" (sp_Looker_body n K w) []
  | 0 => ⟨f, fd, ["self", "body", "deep"], [], Fc.clLooker, k, FunD.ok F sc_m_Looker_body (fun vs H Q E h => (sp0_m_Looker_body h).elim) (fun cdv A outer s H vs Q E hr h => (sp0_m_Looker_body h).elim), F.bindsN fun _ _ _ _ _ _ us hl => match us, hl with | [_, _, _], _ => rfl, .nil⟩
  | n + 1 => met_m_Looker_body n Fc T Tk' G (mono_met c_Looker_begin (by omega)) (c_Looker_part n) (rec_lbody Fc T Tk' G c_Looker_begin c_Looker_part F k n) F k
theorem sp0_f_part_words {K : PySem.W.Frag} {w : World} {vs : List V} {H : Hp} {Q : VK} {E : XK} (h : sp_part_words 0 K w vs H Q E) : False := by
  obtain ⟨_, p, _, _, _, _, hd, _⟩ := h; cases p <;> simp [Pt.dp] at hd
theorem rec_part_words {P : Program} {w : World} {K : PySem.W.Frag} {mg : Str → Option Value} {base : Heap} {j : Nat} (Fc : Fcts K) (T : Tb K w) (Tk' : Tk K w) (G : Gx K mg)  {f : Addr} {fd : FuncData} (F : FunD K "part_words" "part_words" (defArgs s_f_part_words) (defBody s_f_part_words) (defScope s_f_part_words) [] [] f fd) (m : mg "part_words" = some (.ref f)) : ∀ n, Cal P w K mg base (j + n + 1) "part_words" (sp_part_words n K w) []
  | 0 => ⟨f, fd, ["part"], [], FunD.ok F sc_f_part_words (fun vs H Q E h => (sp0_f_part_words h).elim) (fun cdv A outer s H vs Q E hr h => (sp0_f_part_words h).elim), m, F.kp, F.bindsN fun _ _ _ _ _ _ us hl => match us, hl with | [_], _ => rfl, .nil⟩
  | n + 1 => cal_f_part_words n Fc T Tk' G (rec_part_words Fc T Tk' G  F m n) F m
theorem sp0_f_body_words {K : PySem.W.Frag} {w : World} {vs : List V} {H : Hp} {Q : VK} {E : XK} (h : sp_body_words 0 K w vs H Q E) : False := by
  obtain ⟨_, _, _, _, _, _, _, _, hd, _⟩ := h; exact absurd hd (Nat.not_lt_zero _)
theorem rec_body_words {P : Program} {w : World} {K : PySem.W.Frag} {mg : Str → Option Value} {base : Heap} {j : Nat} (Fc : Fcts K) (T : Tb K w) (Tk' : Tk K w) (G : Gx K mg) (c_part_words : Cal P w K mg base j "part_words" (sp_part_words 8 K w) []) {f : Addr} {fd : FuncData} (F : FunD K "body_words" "body_words" (defArgs s_f_body_words) (defBody s_f_body_words) (defScope s_f_body_words) [] [] f fd) (m : mg "body_words" = some (.ref f)) : ∀ n, Cal P w K mg base (j + n + 1) "body_words" (sp_body_words n K w) []
  | 0 => ⟨f, fd, ["body"], [], FunD.ok F sc_f_body_words (fun vs H Q E h => (sp0_f_body_words h).elim) (fun cdv A outer s H vs Q E hr h => (sp0_f_body_words h).elim), m, F.kp, F.bindsN fun _ _ _ _ _ _ us hl => match us, hl with | [_], _ => rfl, .nil⟩
  | n + 1 => cal_f_body_words n Fc T Tk' G (mono_cal c_part_words (by omega)) (rec_body_words Fc T Tk' G c_part_words F m n) F m
theorem sp0_m_Reader_part {K : PySem.W.Frag} {w : World} {vs : List V} {H : Hp} {Q : VK} {E : XK} (h : sp_Reader_part 0 K w vs H Q E) : False := by
  obtain ⟨_, _, _, p, _, _, _, _, _, hd, _⟩ := h; cases p <;> simp [Pt.dp] at hd
theorem rec_Reader_part {P : Program} {w : World} {K : PySem.W.Frag} {mg : Str → Option Value} {base : Heap} {j : Nat} (Fc : Fcts K) (T : Tb K w) (Tk' : Tk K w) (G : Gx K mg) (c_Reader_word : Met P w K mg base j (He.ga K "Reader") "word" (sp_Reader_word K w) []) (c_number_of : Cal P w K mg base j "number_of" (sp_number_of K w) []) {f : Addr} {fd : FuncData} (F : FunD K "part" "Reader.part" (defArgs s_m_Reader_part) (defBody s_m_Reader_part) (defScope s_m_Reader_part) [] [] f fd) (k : Meth K (He.ga K "Reader") "part" f) : ∀ n, Met P w K mg base (j + n + 1) (He.ga K "Reader") "part" (sp_Reader_part n K w) []
  | 0 => ⟨f, fd, ["self"], [], Fc.clReader, k, FunD.ok F sc_m_Reader_part (fun vs H Q E h => (sp0_m_Reader_part h).elim) (fun cdv A outer s H vs Q E hr h => (sp0_m_Reader_part h).elim), F.bindsN fun _ _ _ _ _ _ us hl => match us, hl with | [_], _ => rfl, .nil⟩
  | n + 1 => met_m_Reader_part n Fc T Tk' G (mono_met c_Reader_word (by omega)) (mono_cal c_number_of (by omega)) (rec_Reader_part Fc T Tk' G c_Reader_word c_number_of F k n) F k
theorem sp0_m_Reader_piece {K : PySem.W.Frag} {w : World} {vs : List V} {H : Hp} {Q : VK} {E : XK} (h : sp_Reader_piece 0 K w vs H Q E) : False := by
  obtain ⟨_, _, _, _, _, _, _, _, _, _, _, _, hd, _⟩ := h; exact absurd hd (Nat.lt_irrefl _)
theorem sp0_m_Reader_body {K : PySem.W.Frag} {w : World} {vs : List V} {H : Hp} {Q : VK} {E : XK} (h : sp_Reader_body 0 K w vs H Q E) : False := by
  obtain ⟨_, _, _, _, _, _, _, _, _, _, hd, _⟩ := h; exact absurd hd (Nat.not_lt_zero _)
theorem rec_Reader_pb {P : Program} {w : World} {K : PySem.W.Frag} {mg : Str → Option Value} {base : Heap} {j : Nat} (Fc : Fcts K) (T : Tb K w) (Tk' : Tk K w) (G : Gx K mg) (c_Reader_part : Met P w K mg base j (He.ga K "Reader") "part" (sp_Reader_part 8 K w) []) (c_Reader_number : Met P w K mg base j (He.ga K "Reader") "number" (sp_Reader_number K w) []) (c_Reader_word : Met P w K mg base j (He.ga K "Reader") "word" (sp_Reader_word K w) []) {f0 : Addr} {fd0 : FuncData} (F0 : FunD K "piece" "Reader.piece" (defArgs s_m_Reader_piece) (defBody s_m_Reader_piece) (defScope s_m_Reader_piece) [] [] f0 fd0) {f1 : Addr} {fd1 : FuncData} (F1 : FunD K "body" "Reader.body" (defArgs s_m_Reader_body) (defBody s_m_Reader_body) (defScope s_m_Reader_body) [] [] f1 fd1) (k0 : Meth K (He.ga K "Reader") "piece" f0) (k1 : Meth K (He.ga K "Reader") "body" f1) : ∀ n, Met P w K mg base (j + n + 1) (He.ga K "Reader") "piece" (sp_Reader_piece n K w) [] ∧ Met P w K mg base (j + n + 1) (He.ga K "Reader") "body" (sp_Reader_body n K w) []
  | 0 => ⟨⟨f0, fd0, ["self", "kind"], [], Fc.clReader, k0, FunD.ok F0 sc_m_Reader_piece (fun vs H Q E h => (sp0_m_Reader_piece h).elim) (fun cdv A outer s H vs Q E hr h => (sp0_m_Reader_piece h).elim), F0.bindsN fun _ _ _ _ _ _ us hl => match us, hl with | [_, _], _ => rfl, .nil⟩, ⟨f1, fd1, ["self"], [], Fc.clReader, k1, FunD.ok F1 sc_m_Reader_body (fun vs H Q E h => (sp0_m_Reader_body h).elim) (fun cdv A outer s H vs Q E hr h => (sp0_m_Reader_body h).elim), F1.bindsN fun _ _ _ _ _ _ us hl => match us, hl with | [_], _ => rfl, .nil⟩⟩
  | n + 1 => by
    have ih := rec_Reader_pb Fc T Tk' G c_Reader_part c_Reader_number c_Reader_word F0 F1 k0 k1 n
    exact ⟨met_m_Reader_piece n Fc T Tk' G (mono_met c_Reader_part (by omega)) ih.2 (mono_met c_Reader_number (by omega)) F0 k0, met_m_Reader_body n Fc T Tk' G (mono_met c_Reader_word (by omega)) ih.1 F1 k1⟩
theorem sp0_f_law_like {K : PySem.W.Frag} {w : World} {vs : List V} {H : Hp} {Q : VK} {E : XK} (h : sp_law_like 0 K w vs H Q E) : False := by
  obtain ⟨_, _, _, _, hd, _⟩ := h; exact absurd hd (Nat.not_lt_zero _)
theorem rec_law_like {P : Program} {w : World} {K : PySem.W.Frag} {mg : Str → Option Value} {base : Heap} {j : Nat} (Fc : Fcts K) (T : Tb K w) (Tk' : Tk K w) (G : Gx K mg)  {f : Addr} {fd : FuncData} (F : FunD K "_law_like" "_law_like" (defArgs s_f_law_like) (defBody s_f_law_like) (defScope s_f_law_like) [] [] f fd) (m : mg "_law_like" = some (.ref f)) : ∀ n, Cal P w K mg base (j + n + 1) "_law_like" (sp_law_like n K w) []
  | 0 => ⟨f, fd, ["_law_found", "_law_due"], [], FunD.ok F sc_f_law_like (fun vs H Q E h => (sp0_f_law_like h).elim) (fun cdv A outer s H vs Q E hr h => (sp0_f_law_like h).elim), m, F.kp, F.bindsN fun _ _ _ _ _ _ us hl => match us, hl with | [_, _], _ => rfl, .nil⟩
  | n + 1 => cal_f_law_like n Fc T Tk' G (rec_law_like Fc T Tk' G  F m n) F m
theorem sp0_f_law_part {K : PySem.W.Frag} {w : World} {vs : List V} {H : Hp} {Q : VK} {E : XK} (h : sp_law_part 0 K w vs H Q E) : False := by
  obtain ⟨_, _, _, _, _, _, _, _, hd, _⟩ := h; exact absurd hd (Nat.not_lt_zero _)
theorem rec_law_part {P : Program} {w : World} {K : PySem.W.Frag} {mg : Str → Option Value} {base : Heap} {j : Nat} (Fc : Fcts K) (T : Tb K w) (Tk' : Tk K w) (G : Gx K mg) (c_law_next : Cal P w K mg base j "_law_next" (sp_law_next K w) []) {f : Addr} {fd : FuncData} (F : FunD K "_law_part" "_law_part" (defArgs s_f_law_part) (defBody s_f_law_part) (defScope s_f_law_part) [] [] f fd) (m : mg "_law_part" = some (.ref f)) : ∀ n, Cal P w K mg base (j + n + 1) "_law_part" (sp_law_part n K w) []
  | 0 => ⟨f, fd, ["_law_d", "_law_names", "_law_cells", "_law_deep"], [], FunD.ok F sc_f_law_part (fun vs H Q E h => (sp0_f_law_part h).elim) (fun cdv A outer s H vs Q E hr h => (sp0_f_law_part h).elim), m, F.kp, F.bindsN fun _ _ _ _ _ _ us hl => match us, hl with | [_, _, _, _], _ => rfl, .nil⟩
  | n + 1 => cal_f_law_part n Fc T Tk' G (mono_cal c_law_next (by omega)) (rec_law_part Fc T Tk' G c_law_next F m n) F m
theorem sp0_f_law_body {K : PySem.W.Frag} {w : World} {vs : List V} {H : Hp} {Q : VK} {E : XK} (h : sp_law_body 0 K w vs H Q E) : False := by
  obtain ⟨_, _, _, _, _, _, _, _, _, _, _, _, hd, _⟩ := h; exact absurd hd (Nat.not_lt_zero _)
theorem rec_law_body {P : Program} {w : World} {K : PySem.W.Frag} {mg : Str → Option Value} {base : Heap} {j : Nat} (Fc : Fcts K) (T : Tb K w) (Tk' : Tk K w) (G : Gx K mg) (c_law_next : Cal P w K mg base j "_law_next" (sp_law_next K w) []) (c_law_part : Cal P w K mg base j "_law_part" (sp_law_part 4 K w) []) {f : Addr} {fd : FuncData} (F : FunD K "_law_body" "_law_body" (defArgs s_f_law_body) (defBody s_f_law_body) (defScope s_f_law_body) [] [] f fd) (m : mg "_law_body" = some (.ref f)) : ∀ n, Cal P w K mg base (j + n + 1) "_law_body" (sp_law_body n K w) []
  | 0 => ⟨f, fd, ["_law_d", "_law_s", "_law_deep", "_law_most"], [], FunD.ok F sc_f_law_body (fun vs H Q E h => (sp0_f_law_body h).elim) (fun cdv A outer s H vs Q E hr h => (sp0_f_law_body h).elim), m, F.kp, F.bindsN fun _ _ _ _ _ _ us hl => match us, hl with | [_, _, _, _], _ => rfl, .nil⟩
  | n + 1 => cal_f_law_body n Fc T Tk' G (mono_cal c_law_next (by omega)) (mono_cal c_law_part (by omega)) (rec_law_body Fc T Tk' G c_law_next c_law_part F m n) F m
theorem sp0_f_law_count {K : PySem.W.Frag} {w : World} {vs : List V} {H : Hp} {Q : VK} {E : XK} (h : sp_law_count 0 K w vs H Q E) : False := by
  obtain ⟨_, _, _, _, hd, _⟩ := h; exact absurd hd (Nat.not_lt_zero _)
theorem rec_law_count {P : Program} {w : World} {K : PySem.W.Frag} {mg : Str → Option Value} {base : Heap} {j : Nat} (Fc : Fcts K) (T : Tb K w) (Tk' : Tk K w) (G : Gx K mg)  {f : Addr} {fd : FuncData} (F : FunD K "_law_count" "_law_count" (defArgs s_f_law_count) (defBody s_f_law_count) (defScope s_f_law_count) [] [] f fd) (m : mg "_law_count" = some (.ref f)) : ∀ n, Cal P w K mg base (j + n + 1) "_law_count" (sp_law_count n K w) []
  | 0 => ⟨f, fd, ["_law_thing"], [], FunD.ok F sc_f_law_count (fun vs H Q E h => (sp0_f_law_count h).elim) (fun cdv A outer s H vs Q E hr h => (sp0_f_law_count h).elim), m, F.kp, F.bindsN fun _ _ _ _ _ _ us hl => match us, hl with | [_], _ => rfl, .nil⟩
  | n + 1 => cal_f_law_count n Fc T Tk' G (rec_law_count Fc T Tk' G  F m n) F m
theorem sp0_f_law_words {K : PySem.W.Frag} {w : World} {vs : List V} {H : Hp} {Q : VK} {E : XK} (h : sp_law_words 0 K w vs H Q E) : False := by
  obtain ⟨_, t, _, _, _, _, _, hd, _⟩ := h; have := t.dp1; omega
theorem rec_law_words {P : Program} {w : World} {K : PySem.W.Frag} {mg : Str → Option Value} {base : Heap} {j : Nat} (Fc : Fcts K) (T : Tb K w) (Tk' : Tk K w) (G : Gx K mg)  {f : Addr} {fd : FuncData} (F : FunD K "_law_words" "_law_words" (defArgs s_f_law_words) (defBody s_f_law_words) (defScope s_f_law_words) [] [] f fd) (m : mg "_law_words" = some (.ref f)) : ∀ n, Cal P w K mg base (j + n + 1) "_law_words" (sp_law_words n K w) []
  | 0 => ⟨f, fd, ["_law_thing"], [], FunD.ok F sc_f_law_words (fun vs H Q E h => (sp0_f_law_words h).elim) (fun cdv A outer s H vs Q E hr h => (sp0_f_law_words h).elim), m, F.kp, F.bindsN fun _ _ _ _ _ _ us hl => match us, hl with | [_], _ => rfl, .nil⟩
  | n + 1 => cal_f_law_words n Fc T Tk' G (rec_law_words Fc T Tk' G  F m n) F m
end SD
set_option Elab.async false
set_option linter.all false
set_option maxRecDepth 100000
set_option maxHeartbeats 0
namespace SD
open PySem PySem.Spec PyProof.Rows L2
open C8 (Cal Met Mak pe_c pe_mk pe_mt pe_mt0 pe_gc)
open Hd
theorem gx_of {w : World} {K : PySem.W.Frag} {h : Heap} {mg : Str → Option Value} (X : K.In h) (G : h.Ns mainGlobals mg) (c : He.SaysX fa fn ts [] exb w h K) : Gx K mg where
  c_REST := by obtain ⟨t, e⟩ := He.int_ok X G (c.t.d.fact 39 (f := .int "REST" 10007) rfl); exact ⟨_, e, t, rfl⟩
  c_MOST_CELLS := by obtain ⟨t, e⟩ := He.int_ok X G (c.t.d.fact 40 (f := .int "MOST_CELLS" 8) rfl); exact ⟨_, e, t, rfl⟩
  c_MOST_FUNS := by obtain ⟨t, e⟩ := He.int_ok X G (c.t.d.fact 41 (f := .int "MOST_FUNS" 4) rfl); exact ⟨_, e, t, rfl⟩
  c_MOST_HANDS := by obtain ⟨t, e⟩ := He.int_ok X G (c.t.d.fact 42 (f := .int "MOST_HANDS" 3) rfl); exact ⟨_, e, t, rfl⟩
  c_MOST_NAMES := by obtain ⟨t, e⟩ := He.int_ok X G (c.t.d.fact 43 (f := .int "MOST_NAMES" 4) rfl); exact ⟨_, e, t, rfl⟩
  c_MOST_THINGS := by obtain ⟨t, e⟩ := He.int_ok X G (c.t.d.fact 44 (f := .int "MOST_THINGS" 100) rfl); exact ⟨_, e, t, rfl⟩
  c_MOST_DEEP := by obtain ⟨t, e⟩ := He.int_ok X G (c.t.d.fact 45 (f := .int "MOST_DEEP" 8) rfl); exact ⟨_, e, t, rfl⟩
  c_PARTS := ⟨_, He.glo_ok X G (c.t.d.fact 46 (f := .glo "PARTS") rfl), rfl⟩
  c_TWO := ⟨_, He.glo_ok X G (c.t.d.fact 47 (f := .glo "TWO") rfl), rfl⟩
  c_DEEDS := ⟨_, He.glo_ok X G (c.t.d.fact 48 (f := .glo "DEEDS") rfl), rfl⟩
  c_FIGURES := by obtain ⟨t, e⟩ := He.str_ok X G (c.t.d.fact 49 (f := .str "FIGURES" "0123456789") rfl); exact ⟨_, e, t, rfl⟩
  c_MOST_FIGURES := by obtain ⟨t, e⟩ := He.int_ok X G (c.t.d.fact 50 (f := .int "MOST_FIGURES" 5) rfl); exact ⟨_, e, t, rfl⟩
  c_NAME := by obtain ⟨t, e⟩ := He.str_ok X G (c.t.d.fact 51 (f := .str "NAME" "n") rfl); exact ⟨_, e, t, rfl⟩
  c_CELL := by obtain ⟨t, e⟩ := He.str_ok X G (c.t.d.fact 52 (f := .str "CELL" "c") rfl); exact ⟨_, e, t, rfl⟩
  c_CLOSE := by obtain ⟨t, e⟩ := He.str_ok X G (c.t.d.fact 53 (f := .str "CLOSE" "end") rfl); exact ⟨_, e, t, rfl⟩
  c_CELLS := by obtain ⟨t, e⟩ := He.str_ok X G (c.t.d.fact 54 (f := .str "CELLS" "cells") rfl); exact ⟨_, e, t, rfl⟩
  c_FUN := by obtain ⟨t, e⟩ := He.str_ok X G (c.t.d.fact 55 (f := .str "FUN" "fun") rfl); exact ⟨_, e, t, rfl⟩
  c_HANDS := by obtain ⟨t, e⟩ := He.str_ok X G (c.t.d.fact 56 (f := .str "HANDS" "hands") rfl); exact ⟨_, e, t, rfl⟩
  n_len := He.free_ok X G (c.t.d.fact 57 (f := .free "len") rfl)
  n_zip := He.free_ok X G (c.t.d.fact 58 (f := .free "zip") rfl)
  n_isinstance := He.free_ok X G (c.t.d.fact 59 (f := .free "isinstance") rfl)
  n_range := He.free_ok X G (c.t.d.fact 60 (f := .free "range") rfl)
  n_enumerate := He.free_ok X G (c.t.d.fact 61 (f := .free "enumerate") rfl)
  n_int := He.free_ok X G (c.t.d.fact 62 (f := .free "int") rfl)
  n_list := He.free_ok X G (c.t.d.fact 63 (f := .free "list") rfl)
  n_sorted := He.free_ok X G (c.t.d.fact 64 (f := .free "sorted") rfl)
  n_tuple := He.free_ok X G (c.t.d.fact 65 (f := .free "tuple") rfl)
  n_str := He.free_ok X G (c.t.d.fact 66 (f := .free "str") rfl)
  n_bool := He.free_ok X G (c.t.d.fact 67 (f := .free "bool") rfl)
  n_sum := He.free_ok X G (c.t.d.fact 68 (f := .free "sum") rfl)
  n_max := He.free_ok X G (c.t.d.fact 69 (f := .free "max") rfl)
  n_min := He.free_ok X G (c.t.d.fact 70 (f := .free "min") rfl)
theorem fc_of {w : World} {K : PySem.W.Frag} {h : Heap} {mg : Str → Option Value} (X : K.In h) (G : h.Ns mainGlobals mg) (c : He.SaysX fa fn ts [] exb w h K) : Fcts K where
  clLooker := He.cls_ok (c.t.d.fact 18 (f := .cls "Looker") rfl)
  naLooker_many := He.noat_ok (c.t.d.fact 20 (f := .noat "Looker" "many") rfl)
  naLooker_params := He.noat_ok (c.t.d.fact 21 (f := .noat "Looker" "params") rfl)
  naLooker_names := He.noat_ok (c.t.d.fact 22 (f := .noat "Looker" "names") rfl)
  naLooker_seen := He.noat_ok (c.t.d.fact 23 (f := .noat "Looker" "seen") rfl)
  clReader := He.cls_ok (c.t.d.fact 29 (f := .cls "Reader") rfl)
  naReader_words := He.noat_ok (c.t.d.fact 31 (f := .noat "Reader" "words") rfl)
  naReader_at := He.noat_ok (c.t.d.fact 32 (f := .noat "Reader" "at") rfl)
theorem tb_of {w : World} {K : PySem.W.Frag} {h : Heap} {mg : Str → Option Value} (X : K.In h) (G : h.Ns mainGlobals mg) (c : He.SaysX fa fn ts [] exb w h K) : Tb K w where
  deeds := ktab_of (kvs := [("set", .str "kx"), ("put", .str "cx"), ("say", .str "x"), ("if", .str "xbb"), ("again", .str "xb"), ("call", .str "fpk"), ("return", .str "x")]) (saysT_tab c.t 1) (He.ba (He.ba (show exb K = true from c.more)).2).2
  parts := ktab_of (kvs := [("num", .str "n"), ("name", .str "k"), ("cell", .str "c")]) (saysT_tab c.t 0) (He.ba (show exb K = true from c.more)).1
  two := fun H => He.tupB_ok (He.ba (He.ba (show exb K = true from c.more)).2).1 H
theorem tk_of {w : World} {K : PySem.W.Frag} {h : Heap} {mg : Str → Option Value} (X : K.In h) (G : h.Ns mainGlobals mg) (c : He.SaysX fa fn ts [] exb w h K) : Tk K w where
  keys := kkeys_of (saysT_tab c.t 1) (by decide +kernel) (by decide)
theorem facts {P : Program} {w : World} {K : PySem.W.Frag} {h : Heap} {mg : Str → Option Value} {f : Addr} (X : K.In h) (G : h.Ns mainGlobals mg) (hfa : mg ("law" : Str) = some (.ref f)) (c : He.SaysX fa fn ts [] exb w h K) :
    ∃ fd : FuncData, (∀ (s : Shared) (v : Value), BindsTo s fd ⟨[v], []⟩ [("_law_script", v)]) ∧ ∀ base : Heap, K.In base → base.Ns mainGlobals mg → FnOk P w K mg base CX0 32 f fd ["_law_script"] (sp_law K w) := by
  have Fc := fc_of X G c
  have Gg := gx_of X G c
  have T := tb_of X G c
  have Tk' := tk_of X G c
  obtain ⟨fd_f_law_dice, F_f_law_dice⟩ := c.t.d.def_ 22 (d := d_f_law_dice) rfl
  obtain ⟨fd_f_law_next, F_f_law_next⟩ := c.t.d.def_ 23 (d := d_f_law_next) rfl
  obtain ⟨fd_f_law_part, F_f_law_part⟩ := c.t.d.def_ 25 (d := d_f_law_part) rfl
  obtain ⟨fd_f_law_body, F_f_law_body⟩ := c.t.d.def_ 26 (d := d_f_law_body) rfl
  obtain ⟨fd_f_law_count, F_f_law_count⟩ := c.t.d.def_ 27 (d := d_f_law_count) rfl
  obtain ⟨fd_f_law_program, F_f_law_program⟩ := c.t.d.def_ 28 (d := d_f_law_program) rfl
  obtain ⟨fd_f_law_words, F_f_law_words⟩ := c.t.d.def_ 29 (d := d_f_law_words) rfl
  obtain ⟨fd_f_need_head, F_f_need_head⟩ := c.t.d.def_ 8 (d := d_f_need_head) rfl
  obtain ⟨fd_m_Looker_init, F_m_Looker_init⟩ := c.t.d.def_ 3 (d := d_m_Looker_init) rfl
  obtain ⟨fd_f_is_number, F_f_is_number⟩ := c.t.d.def_ 2 (d := d_f_is_number) rfl
  obtain ⟨fd_m_Looker_bounds, F_m_Looker_bounds⟩ := c.t.d.def_ 5 (d := d_m_Looker_bounds) rfl
  obtain ⟨fd_m_Looker_begin, F_m_Looker_begin⟩ := c.t.d.def_ 4 (d := d_m_Looker_begin) rfl
  obtain ⟨fd_m_Looker_part, F_m_Looker_part⟩ := c.t.d.def_ 6 (d := d_m_Looker_part) rfl
  obtain ⟨fd_m_Looker_body, F_m_Looker_body⟩ := c.t.d.def_ 7 (d := d_m_Looker_body) rfl
  obtain ⟨fd_f_need_program, F_f_need_program⟩ := c.t.d.def_ 9 (d := d_f_need_program) rfl
  obtain ⟨fd_f_part_words, F_f_part_words⟩ := c.t.d.def_ 10 (d := d_f_part_words) rfl
  obtain ⟨fd_f_body_words, F_f_body_words⟩ := c.t.d.def_ 11 (d := d_f_body_words) rfl
  obtain ⟨fd_f_written, F_f_written⟩ := c.t.d.def_ 12 (d := d_f_written) rfl
  obtain ⟨fd_f_law_like, F_f_law_like⟩ := c.t.d.def_ 24 (d := d_f_law_like) rfl
  obtain ⟨fd_m_Reader_init, F_m_Reader_init⟩ := c.t.d.def_ 14 (d := d_m_Reader_init) rfl
  obtain ⟨fd_m_Reader_word, F_m_Reader_word⟩ := c.t.d.def_ 15 (d := d_m_Reader_word) rfl
  obtain ⟨fd_f_number_of, F_f_number_of⟩ := c.t.d.def_ 13 (d := d_f_number_of) rfl
  obtain ⟨fd_m_Reader_number, F_m_Reader_number⟩ := c.t.d.def_ 16 (d := d_m_Reader_number) rfl
  obtain ⟨fd_m_Reader_numbers, F_m_Reader_numbers⟩ := c.t.d.def_ 17 (d := d_m_Reader_numbers) rfl
  obtain ⟨fd_m_Reader_part, F_m_Reader_part⟩ := c.t.d.def_ 18 (d := d_m_Reader_part) rfl
  obtain ⟨fd_m_Reader_piece, F_m_Reader_piece⟩ := c.t.d.def_ 19 (d := d_m_Reader_piece) rfl
  obtain ⟨fd_m_Reader_body, F_m_Reader_body⟩ := c.t.d.def_ 20 (d := d_m_Reader_body) rfl
  obtain ⟨fd_f_read, F_f_read⟩ := c.t.d.def_ 21 (d := d_f_read) rfl
  obtain ⟨fd_f_law, F_f_law⟩ := c.t.d.def_ 30 (d := d_f_law) rfl
  have e := hfa.symm.trans (He.glo_ok X G (c.t.d.fact 16 (f := .glo "law") rfl))
  cases e
  have b := FunD.bindsA (ps := ["_law_script"]) F_f_law fun _ _ _ _ _ _ us hl => match us, hl with | [_], _ => rfl
  refine ⟨fd_f_law, fun s v => b s [v] rfl, fun base _ _ => ?_⟩
  have c_f_law_dice := cal_f_law_dice (P := P) (w := w) (mg := mg) (base := base) (j := 0) Fc T Tk' Gg  F_f_law_dice (He.glo_ok X G (c.t.d.fact 8 (f := .glo "_law_dice") rfl))
  have c_f_law_next := cal_f_law_next (P := P) (w := w) (mg := mg) (base := base) (j := 0) Fc T Tk' Gg  F_f_law_next (He.glo_ok X G (c.t.d.fact 9 (f := .glo "_law_next") rfl))
  have c_f_law_part := rec_law_part (P := P) (w := w) (mg := mg) (base := base) (j := 1) Fc T Tk' Gg (mono_cal c_f_law_next (by decide)) F_f_law_part (He.glo_ok X G (c.t.d.fact 11 (f := .glo "_law_part") rfl))
  have c_f_law_body := rec_law_body (P := P) (w := w) (mg := mg) (base := base) (j := 6) Fc T Tk' Gg (mono_cal c_f_law_next (by decide)) (mono_cal (c_f_law_part 4) (by decide)) F_f_law_body (He.glo_ok X G (c.t.d.fact 12 (f := .glo "_law_body") rfl))
  have c_f_law_count := rec_law_count (P := P) (w := w) (mg := mg) (base := base) (j := 0) Fc T Tk' Gg  F_f_law_count (He.glo_ok X G (c.t.d.fact 13 (f := .glo "_law_count") rfl))
  have c_f_law_program := cal_f_law_program (P := P) (w := w) (mg := mg) (base := base) (j := 21) Fc T Tk' Gg (mono_cal c_f_law_next (by decide)) (mono_cal (c_f_law_body 5) (by decide)) (mono_cal (c_f_law_count 20) (by decide)) F_f_law_program (He.glo_ok X G (c.t.d.fact 14 (f := .glo "_law_program") rfl))
  have c_f_law_words := rec_law_words (P := P) (w := w) (mg := mg) (base := base) (j := 0) Fc T Tk' Gg  F_f_law_words (He.glo_ok X G (c.t.d.fact 15 (f := .glo "_law_words") rfl))
  have c_f_need_head := cal_f_need_head (P := P) (w := w) (mg := mg) (base := base) (j := 0) Fc T Tk' Gg  F_f_need_head (He.glo_ok X G (c.t.d.fact 1 (f := .glo "need_head") rfl))
  have c_m_Looker_init := mak_m_Looker_init (P := P) (w := w) (mg := mg) (base := base) (j := 0) Fc T Tk' Gg  F_m_Looker_init (He.mkr_ok (c.t.d.fact 19 (f := .mkr "Looker") rfl)) (He.glo_ok X G (c.t.d.fact 17 (f := .glo "Looker") rfl))
  have c_f_is_number := cal_f_is_number (P := P) (w := w) (mg := mg) (base := base) (j := 0) Fc T Tk' Gg  F_f_is_number (He.glo_ok X G (c.t.d.fact 0 (f := .glo "is_number") rfl))
  have c_m_Looker_bounds := met_m_Looker_bounds (P := P) (w := w) (mg := mg) (base := base) (j := 0) Fc T Tk' Gg  F_m_Looker_bounds (He.meth_ok (c.t.d.fact 25 (f := .meth "Looker" "bounds") rfl))
  have c_m_Looker_begin := met_m_Looker_begin (P := P) (w := w) (mg := mg) (base := base) (j := 1) Fc T Tk' Gg (mono_cal c_f_is_number (by decide)) (mono_met c_m_Looker_bounds (by decide)) F_m_Looker_begin (He.meth_ok (c.t.d.fact 24 (f := .meth "Looker" "begin") rfl))
  have c_m_Looker_part := rec_part (P := P) (w := w) (mg := mg) (base := base) (j := 2) Fc T Tk' Gg (mono_met c_m_Looker_begin (by decide)) F_m_Looker_part (He.meth_ok (c.t.d.fact 26 (f := .meth "Looker" "part") rfl))
  have c_m_Looker_body := rec_lbody (P := P) (w := w) (mg := mg) (base := base) (j := 2) Fc T Tk' Gg (mono_met c_m_Looker_begin (by decide)) (fun n => mono_met (c_m_Looker_part n) (by have := n; omega)) F_m_Looker_body (He.meth_ok (c.t.d.fact 27 (f := .meth "Looker" "body") rfl))
  have c_f_need_program := cal_f_need_program (P := P) (w := w) (mg := mg) (base := base) (j := 12) Fc T Tk' Gg (mono_cal c_f_need_head (by decide)) (by decide) c_m_Looker_init (mono_met (c_m_Looker_body 9) (by decide)) F_f_need_program (He.glo_ok X G (c.t.d.fact 2 (f := .glo "need_program") rfl))
  have c_f_part_words := rec_part_words (P := P) (w := w) (mg := mg) (base := base) (j := 0) Fc T Tk' Gg  F_f_part_words (He.glo_ok X G (c.t.d.fact 3 (f := .glo "part_words") rfl))
  have c_f_body_words := rec_body_words (P := P) (w := w) (mg := mg) (base := base) (j := 9) Fc T Tk' Gg (mono_cal (c_f_part_words 8) (by decide)) F_f_body_words (He.glo_ok X G (c.t.d.fact 4 (f := .glo "body_words") rfl))
  have c_f_written := cal_f_written (P := P) (w := w) (mg := mg) (base := base) (j := 19) Fc T Tk' Gg (mono_cal c_f_need_program (by decide)) (mono_cal (c_f_body_words 9) (by decide)) F_f_written (He.glo_ok X G (c.t.d.fact 5 (f := .glo "written") rfl))
  have c_f_law_like := rec_law_like (P := P) (w := w) (mg := mg) (base := base) (j := 0) Fc T Tk' Gg  F_f_law_like (He.glo_ok X G (c.t.d.fact 10 (f := .glo "_law_like") rfl))
  have c_m_Reader_init := mak_m_Reader_init (P := P) (w := w) (mg := mg) (base := base) (j := 0) Fc T Tk' Gg  F_m_Reader_init (He.mkr_ok (c.t.d.fact 30 (f := .mkr "Reader") rfl)) (He.glo_ok X G (c.t.d.fact 28 (f := .glo "Reader") rfl))
  have c_m_Reader_word := met_m_Reader_word (P := P) (w := w) (mg := mg) (base := base) (j := 0) Fc T Tk' Gg  F_m_Reader_word (He.meth_ok (c.t.d.fact 33 (f := .meth "Reader" "word") rfl))
  have c_f_number_of := cal_f_number_of (P := P) (w := w) (mg := mg) (base := base) (j := 0) Fc T Tk' Gg  F_f_number_of (He.glo_ok X G (c.t.d.fact 6 (f := .glo "number_of") rfl))
  have c_m_Reader_number := met_m_Reader_number (P := P) (w := w) (mg := mg) (base := base) (j := 1) Fc T Tk' Gg (mono_met c_m_Reader_word (by decide)) (mono_cal c_f_number_of (by decide)) F_m_Reader_number (He.meth_ok (c.t.d.fact 34 (f := .meth "Reader" "number") rfl))
  have c_m_Reader_numbers := met_m_Reader_numbers (P := P) (w := w) (mg := mg) (base := base) (j := 2) Fc T Tk' Gg (mono_met c_m_Reader_number (by decide)) F_m_Reader_numbers (He.meth_ok (c.t.d.fact 35 (f := .meth "Reader" "numbers") rfl))
  have c_m_Reader_part := rec_Reader_part (P := P) (w := w) (mg := mg) (base := base) (j := 1) Fc T Tk' Gg (mono_met c_m_Reader_word (by decide)) (mono_cal c_f_number_of (by decide)) F_m_Reader_part (He.meth_ok (c.t.d.fact 36 (f := .meth "Reader" "part") rfl))
  have c_grp := rec_Reader_pb (P := P) (w := w) (mg := mg) (base := base) (j := 10) Fc T Tk' Gg (mono_met (c_m_Reader_part 8) (by decide)) (mono_met c_m_Reader_number (by decide)) (mono_met c_m_Reader_word (by decide)) F_m_Reader_piece F_m_Reader_body (He.meth_ok (c.t.d.fact 37 (f := .meth "Reader" "piece") rfl)) (He.meth_ok (c.t.d.fact 38 (f := .meth "Reader" "body") rfl))
  have c_m_Reader_piece := fun n => (c_grp n).1
  have c_m_Reader_body := fun n => (c_grp n).2
  have c_f_read := cal_f_read (P := P) (w := w) (mg := mg) (base := base) (j := 29) Fc T Tk' Gg (by decide) c_m_Reader_init (mono_met c_m_Reader_word (by decide)) (mono_met c_m_Reader_numbers (by decide)) (mono_met c_m_Reader_number (by decide)) (mono_met (c_m_Reader_body 18) (by decide)) (mono_cal c_f_need_program (by decide)) F_f_read (He.glo_ok X G (c.t.d.fact 7 (f := .glo "read") rfl))
  exact ok_law (j := 31) Fc T Tk' Gg (mono_cal c_f_law_dice (by decide)) (mono_cal c_f_law_program (by decide)) (mono_cal (c_f_law_words 9) (by decide)) (mono_cal c_f_written (by decide)) (mono_cal (c_f_law_like 30) (by decide)) (mono_cal c_f_read (by decide)) F_f_law
end SD
open PySem PySem.W PySem.Calls PyProof.Rows
set_option maxRecDepth 100000 in
set_option maxHeartbeats 0 in
theorem PySem.Challenge.cw_stopdesk_k13_texts_holds : PySem.Challenge.rw_stopdesk_k13_texts.Holds := by
  w_on; o_law
  refine HandSHeadRun.head_any (r := OpenLaw.row PySem.Challenge.rw_stopdesk_k13_texts) (q := view (OpenLaw.row PySem.Challenge.rw_stopdesk_k13_texts).prog [43]) (H := Hd.hk) (ob := Hd.ob) (M := 6000) (loose := Hd.names) (d := HandSHeadRun.topDef (OpenLaw.row PySem.Challenge.rw_stopdesk_k13_texts).prog 43) (kwd := []) Hd.ob_eq
    (by kernel_rfl) (fun s => by kernel_rfl) Hd.run (by kernel_rfl) (by kernel_rfl) (by kernel_rfl) (by rfl) (by first | assumption | decide +kernel) (by decide +kernel) ⟨rfl, rfl, rfl, rfl, rfl, by decide +kernel⟩ ?hw ?hc
  case hw => w_witness2
  case hc =>
    refine L2.walk_ofE (l := PySem.Challenge.rw_stopdesk_k13_texts) (n := 63) (k := 32) (x := "_law_script") (CX := L2.CX0) rfl (by decide) (by kernel_rfl) ⟨rfl, by decide, by decide⟩ ?F (fun _ _ _ _ z => z)
    intro w mg fa h Y G hmg0
    obtain ⟨K, KX, c⟩ := Y
    have hmg : mg ("law" : PySem.Str) = some (.ref fa) := by
      have e : (HandSHeadRun.topDef (OpenLaw.row PySem.Challenge.rw_stopdesk_k13_texts).prog 43).name = ("law" : PySem.Str) := by kernel_rfl
      rw [← e]
      exact hmg0
    obtain ⟨fd, hb, hF⟩ := SD.facts (P := (PySem.Challenge.rw_stopdesk_k13_texts).prog) (w := w) KX G hmg c
    exact ⟨K, fd, SD.sp_law K w, KX, hb, fun H a ns hl hO hS => ⟨a, ns, rfl, SD.only_sqF hO hS, fun _ => rfl⟩, hF⟩
