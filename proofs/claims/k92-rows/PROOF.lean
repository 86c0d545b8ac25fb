import PyProof.Rows.All
import Wide.All
import OpenK.AllK
import Wide.FinOn
import HandS.ForMost
import HandS.ForExc
import HandS.Defaults
import PySem.Challenge.RW_tagrows_k92_rows_that_are_none
import KE.GoesZip
import KE.KIsAll
import PyProof.StrOps2
import HandS.ExcIs
import HandS.ExcCtx
import HandS.Hot
import HandS.HotCalls
import HandS.HeadHook1
import HandS.HeadHook2
import HandS.SuiteRaise
import HandS.HeadHook3
import HandS.HeadHook4
import HandS.Evl
import PyProof.StrLawsTight
import PyProof.StrLawsChain
import PyProof.Rows.StrSplitJoin
import PyProof.Rows.StrSplitAre
import PyProof.Rows.StrItems
import HandS.IsInst
import HandS.Walk
import HandS.Replace
import HandS.More
import HandS.Flow
import HandS.RaiseMore
import PyProof.Rows.SortStrRead
import PyProof.Rows.StrFit
import KE.KStateDown
import HandS.Head0
import HandS.Head1
import HandS.Head2
import HandS.HeadEnd
set_option Elab.async false
set_option linter.all false
set_option maxRecDepth 100000
set_option maxHeartbeats 0
namespace Tg
open PySem PySem.Spec PyProof.Rows L2
/-! ### the text by places -/
def top (i : Nat) : Stmt := PySem.Challenge.pw_tagrows_k92_rows_that_are_none.main.body.getD i (.Pass ⟨0, 0, 0, 0⟩)
abbrev s_AtRest_init : Stmt := inClass (top 3) 0
abbrev s_is_whole : Stmt := top 17
abbrev s_is_upto : Stmt := top 18
abbrev s_is_text_of : Stmt := top 19
abbrev s_is_machine : Stmt := top 20
abbrev s_signs_of : Stmt := top 21
abbrev s_is_row : Stmt := top 22
abbrev s_word_of : Stmt := top 23
abbrev s_ends_so : Stmt := top 26
abbrev s_led_from : Stmt := top 27
abbrev s_how_many : Stmt := top 28
abbrev s_many_before : Stmt := top 29
abbrev s_rests : Stmt := top 31
abbrev s_step : Stmt := top 32
abbrev s_path : Stmt := top 33
abbrev s_is_name : Stmt := top 39
abbrev s_Bench_init : Stmt := inClass (top 40) 0
abbrev s_Bench_turn_to : Stmt := inClass (top 40) 1
abbrev s_Bench_look_for : Stmt := inClass (top 40) 2
abbrev s_Bench_put : Stmt := inClass (top 40) 3
abbrev s_Bench_run : Stmt := inClass (top 40) 4
abbrev s_Bench_drop : Stmt := inClass (top 40) 5
abbrev s_Bench_undo : Stmt := inClass (top 40) 6
abbrev s_Bench_names : Stmt := inClass (top 40) 7
abbrev s_Bench_row : Stmt := inClass (top 40) 8
abbrev s_Bench_gone : Stmt := inClass (top 40) 9
abbrev s_fate : Stmt := top 42
abbrev s_shown_word : Stmt := top 46
abbrev s_read_word : Stmt := top 47
abbrev s_read : Stmt := top 48
abbrev s_number_in : Stmt := top 54
abbrev s_look_at_words : Stmt := top 55
abbrev s_Desk_init : Stmt := inClass (top 56) 0
abbrev s_Desk_say : Stmt := inClass (top 56) 1
abbrev s_Desk_begin : Stmt := inClass (top 56) 2
abbrev s_Desk_done : Stmt := inClass (top 56) 3
abbrev s_Desk_answered : Stmt := inClass (top 56) 4
abbrev s_law_cell_at : Stmt := top 58
abbrev s_law_pot : Stmt := top 59
abbrev s_law_take : Stmt := top 60
abbrev s_law_row : Stmt := top 61
abbrev s_law_kind_of : Stmt := top 62
abbrev s_law_desk_told : Stmt := top 63
abbrev s_law_number : Stmt := top 64
abbrev s_law_is_machine_text : Stmt := top 65
abbrev s_law_is_row : Stmt := top 66
abbrev s_law_bent : Stmt := top 67
abbrev s_law_seen : Stmt := top 68
abbrev s_law : Stmt := top 69

/-! ### the scopes -/
abbrev N_is_whole : List Str := ["thing"]
abbrev P_is_whole : List Str := ["thing"]
theorem sc_is_whole : FnScope N_is_whole P_is_whole (defScope s_is_whole) := ⟨rfl, rfl, rfl, by decide +kernel, rfl, by decide +kernel, by decide +kernel⟩
abbrev N_is_upto : List Str := ["thing", "least", "most"]
abbrev P_is_upto : List Str := ["thing", "least", "most"]
theorem sc_is_upto : FnScope N_is_upto P_is_upto (defScope s_is_upto) := ⟨rfl, rfl, rfl, by decide +kernel, rfl, by decide +kernel, by decide +kernel⟩
abbrev N_is_text_of : List Str := ["thing", "signs", "sign"]
abbrev P_is_text_of : List Str := ["thing", "signs"]
theorem sc_is_text_of : FnScope N_is_text_of P_is_text_of (defScope s_is_text_of) := ⟨rfl, rfl, rfl, by decide +kernel, rfl, by decide +kernel, by decide +kernel⟩
abbrev N_is_machine : List Str := ["thing", "words", "signs", "word"]
abbrev P_is_machine : List Str := ["thing"]
theorem sc_is_machine : FnScope N_is_machine P_is_machine (defScope s_is_machine) := ⟨rfl, rfl, rfl, by decide +kernel, rfl, by decide +kernel, by decide +kernel⟩
abbrev N_signs_of : List Str := ["machine"]
abbrev P_signs_of : List Str := ["machine"]
theorem sc_signs_of : FnScope N_signs_of P_signs_of (defScope s_signs_of) := ⟨rfl, rfl, rfl, by decide +kernel, rfl, by decide +kernel, by decide +kernel⟩
abbrev N_is_row : List Str := ["machine", "thing"]
abbrev P_is_row : List Str := ["machine", "thing"]
theorem sc_is_row : FnScope N_is_row P_is_row (defScope s_is_row) := ⟨rfl, rfl, rfl, by decide +kernel, rfl, by decide +kernel, by decide +kernel⟩
abbrev N_word_of : List Str := ["machine", "sign"]
abbrev P_word_of : List Str := ["machine", "sign"]
theorem sc_word_of : FnScope N_word_of P_word_of (defScope s_word_of) := ⟨rfl, rfl, rfl, by decide +kernel, rfl, by decide +kernel, by decide +kernel⟩
abbrev N_ends_so : List Str := ["row", "word", "mine", "sign"]
abbrev P_ends_so : List Str := ["row", "word"]
theorem sc_ends_so : FnScope N_ends_so P_ends_so (defScope s_ends_so) := ⟨rfl, rfl, rfl, by decide +kernel, rfl, by decide +kernel, by decide +kernel⟩
abbrev N_led_from : List Str := ["machine", "row", "found", "sign", "word"]
abbrev P_led_from : List Str := ["machine", "row"]
theorem sc_led_from : FnScope N_led_from P_led_from (defScope s_led_from) := ⟨rfl, rfl, rfl, by decide +kernel, rfl, by decide +kernel, by decide +kernel⟩
abbrev N_how_many : List Str := ["machine", "rows", "total", "row", "number", "sign"]
abbrev P_how_many : List Str := ["machine", "rows"]
theorem sc_how_many : FnScope N_how_many P_how_many (defScope s_how_many) := ⟨rfl, rfl, rfl, by decide +kernel, rfl, by decide +kernel, by decide +kernel⟩
abbrev N_many_before : List Str := ["machine", "row", "many", "some", "turn", "further", "one"]
abbrev P_many_before : List Str := ["machine", "row", "many"]
theorem sc_many_before : FnScope N_many_before P_many_before (defScope s_many_before) := ⟨rfl, rfl, rfl, by decide +kernel, rfl, by decide +kernel, by decide +kernel⟩
abbrev N_rests : List Str := ["machine", "row"]
abbrev P_rests : List Str := ["machine", "row"]
theorem sc_rests : FnScope N_rests P_rests (defScope s_rests) := ⟨rfl, rfl, rfl, by decide +kernel, rfl, by decide +kernel, by decide +kernel⟩
abbrev N_step : List Str := ["machine", "row"]
abbrev P_step : List Str := ["machine", "row"]
theorem sc_step : FnScope N_step P_step (defScope s_step) := ⟨rfl, rfl, rfl, by decide +kernel, rfl, by decide +kernel, by decide +kernel⟩
abbrev N_path : List Str := ["machine", "row", "many", "found"]
abbrev P_path : List Str := ["machine", "row", "many"]
theorem sc_path : FnScope N_path P_path (defScope s_path) := ⟨rfl, rfl, rfl, by decide +kernel, rfl, by decide +kernel, by decide +kernel⟩
abbrev N_is_name : List Str := ["thing", "sign"]
abbrev P_is_name : List Str := ["thing"]
theorem sc_is_name : FnScope N_is_name P_is_name (defScope s_is_name) := ⟨rfl, rfl, rfl, by decide +kernel, rfl, by decide +kernel, by decide +kernel⟩
abbrev N_Bench_init : List Str := ["self", "machine"]
abbrev P_Bench_init : List Str := ["self", "machine"]
theorem sc_Bench_init : FnScope N_Bench_init P_Bench_init (defScope s_Bench_init) := ⟨rfl, rfl, rfl, by decide +kernel, rfl, by decide +kernel, by decide +kernel⟩
abbrev N_Bench_turn_to : List Str := ["self", "later"]
abbrev P_Bench_turn_to : List Str := ["self", "later"]
theorem sc_Bench_turn_to : FnScope N_Bench_turn_to P_Bench_turn_to (defScope s_Bench_turn_to) := ⟨rfl, rfl, rfl, by decide +kernel, rfl, by decide +kernel, by decide +kernel⟩
abbrev N_Bench_look_for : List Str := ["self", "name"]
abbrev P_Bench_look_for : List Str := ["self", "name"]
theorem sc_Bench_look_for : FnScope N_Bench_look_for P_Bench_look_for (defScope s_Bench_look_for) := ⟨rfl, rfl, rfl, by decide +kernel, rfl, by decide +kernel, by decide +kernel⟩
abbrev N_Bench_put : List Str := ["self", "name", "row", "later"]
abbrev P_Bench_put : List Str := ["self", "name", "row"]
theorem sc_Bench_put : FnScope N_Bench_put P_Bench_put (defScope s_Bench_put) := ⟨rfl, rfl, rfl, by decide +kernel, rfl, by decide +kernel, by decide +kernel⟩
abbrev N_Bench_run : List Str := ["self", "name", "many", "row", "gone", "rows", "later"]
abbrev P_Bench_run : List Str := ["self", "name", "many"]
theorem sc_Bench_run : FnScope N_Bench_run P_Bench_run (defScope s_Bench_run) := ⟨rfl, rfl, rfl, by decide +kernel, rfl, by decide +kernel, by decide +kernel⟩
abbrev N_Bench_drop : List Str := ["self", "name", "later"]
abbrev P_Bench_drop : List Str := ["self", "name"]
theorem sc_Bench_drop : FnScope N_Bench_drop P_Bench_drop (defScope s_Bench_drop) := ⟨rfl, rfl, rfl, by decide +kernel, rfl, by decide +kernel, by decide +kernel⟩
abbrev N_Bench_undo : List Str := ["self"]
abbrev P_Bench_undo : List Str := ["self"]
theorem sc_Bench_undo : FnScope N_Bench_undo P_Bench_undo (defScope s_Bench_undo) := ⟨rfl, rfl, rfl, by decide +kernel, rfl, by decide +kernel, by decide +kernel⟩
abbrev N_Bench_names : List Str := ["self"]
abbrev P_Bench_names : List Str := ["self"]
theorem sc_Bench_names : FnScope N_Bench_names P_Bench_names (defScope s_Bench_names) := ⟨rfl, rfl, rfl, by decide +kernel, rfl, by decide +kernel, by decide +kernel⟩
abbrev N_Bench_row : List Str := ["self", "name"]
abbrev P_Bench_row : List Str := ["self", "name"]
theorem sc_Bench_row : FnScope N_Bench_row P_Bench_row (defScope s_Bench_row) := ⟨rfl, rfl, rfl, by decide +kernel, rfl, by decide +kernel, by decide +kernel⟩
abbrev N_Bench_gone : List Str := ["self", "name"]
abbrev P_Bench_gone : List Str := ["self", "name"]
theorem sc_Bench_gone : FnScope N_Bench_gone P_Bench_gone (defScope s_Bench_gone) := ⟨rfl, rfl, rfl, by decide +kernel, rfl, by decide +kernel, by decide +kernel⟩
abbrev N_fate : List Str := ["machine", "row", "most", "seen", "now", "done"]
abbrev P_fate : List Str := ["machine", "row", "most"]
theorem sc_fate : FnScope N_fate P_fate (defScope s_fate) := ⟨rfl, rfl, rfl, by decide +kernel, rfl, by decide +kernel, by decide +kernel⟩
abbrev N_shown_word : List Str := ["word"]
abbrev P_shown_word : List Str := ["word"]
theorem sc_shown_word : FnScope N_shown_word P_shown_word (defScope s_shown_word) := ⟨rfl, rfl, rfl, by decide +kernel, rfl, by decide +kernel, by decide +kernel⟩
abbrev N_read_word : List Str := ["text"]
abbrev P_read_word : List Str := ["text"]
theorem sc_read_word : FnScope N_read_word P_read_word (defScope s_read_word) := ⟨rfl, rfl, rfl, by decide +kernel, rfl, by decide +kernel, by decide +kernel⟩
abbrev N_read : List Str := ["text", "parts", "machine", "part"]
abbrev P_read : List Str := ["text"]
theorem sc_read : FnScope N_read P_read (defScope s_read) := ⟨rfl, rfl, rfl, by decide +kernel, rfl, by decide +kernel, by decide +kernel⟩
abbrev N_number_in : List Str := ["word", "most", "sign"]
abbrev P_number_in : List Str := ["word", "most"]
theorem sc_number_in : FnScope N_number_in P_number_in (defScope s_number_in) := ⟨rfl, rfl, rfl, by decide +kernel, rfl, by decide +kernel, by decide +kernel⟩
abbrev N_look_at_words : List Str := ["words"]
abbrev P_look_at_words : List Str := ["words"]
theorem sc_look_at_words : FnScope N_look_at_words P_look_at_words (defScope s_look_at_words) := ⟨rfl, rfl, rfl, by decide +kernel, rfl, by decide +kernel, by decide +kernel⟩
abbrev N_Desk_init : List Str := ["self"]
abbrev P_Desk_init : List Str := ["self"]
theorem sc_Desk_init : FnScope N_Desk_init P_Desk_init (defScope s_Desk_init) := ⟨rfl, rfl, rfl, by decide +kernel, rfl, by decide +kernel, by decide +kernel⟩
abbrev N_Desk_say : List Str := ["self", "row", "words", "number"]
abbrev P_Desk_say : List Str := ["self", "row"]
theorem sc_Desk_say : FnScope N_Desk_say P_Desk_say (defScope s_Desk_say) := ⟨rfl, rfl, rfl, by decide +kernel, rfl, by decide +kernel, by decide +kernel⟩
abbrev N_Desk_begin : List Str := ["self", "text", "machine"]
abbrev P_Desk_begin : List Str := ["self", "text"]
theorem sc_Desk_begin : FnScope N_Desk_begin P_Desk_begin (defScope s_Desk_begin) := ⟨rfl, rfl, rfl, by decide +kernel, rfl, by decide +kernel, by decide +kernel⟩
abbrev N_Desk_done : List Str := ["self", "words"]
abbrev P_Desk_done : List Str := ["self", "words"]
theorem sc_Desk_done : FnScope N_Desk_done P_Desk_done (defScope s_Desk_done) := ⟨rfl, rfl, rfl, by decide +kernel, rfl, by decide +kernel, by decide +kernel⟩
abbrev N_Desk_answered : List Str := ["self", "words", "number", "row", "found", "part"]
abbrev P_Desk_answered : List Str := ["self", "words", "number"]
theorem sc_Desk_answered : FnScope N_Desk_answered P_Desk_answered (defScope s_Desk_answered) := ⟨rfl, rfl, rfl, by decide +kernel, rfl, by decide +kernel, by decide +kernel⟩
abbrev N_law_cell_at : List Str := ["script", "k"]
abbrev P_law_cell_at : List Str := ["script", "k"]
theorem sc_law_cell_at : FnScope N_law_cell_at P_law_cell_at (defScope s_law_cell_at) := ⟨rfl, rfl, rfl, by decide +kernel, rfl, by decide +kernel, by decide +kernel⟩
abbrev N_law_pot : List Str := ["cell", "number", "j", "more"]
abbrev P_law_pot : List Str := ["cell"]
theorem sc_law_pot : FnScope N_law_pot P_law_pot (defScope s_law_pot) := ⟨rfl, rfl, rfl, by decide +kernel, rfl, by decide +kernel, by decide +kernel⟩
abbrev N_law_take : List Str := ["pot", "far", "found"]
abbrev P_law_take : List Str := ["pot", "far"]
theorem sc_law_take : FnScope N_law_take P_law_take (defScope s_law_take) := ⟨rfl, rfl, rfl, by decide +kernel, rfl, by decide +kernel, by decide +kernel⟩
abbrev N_law_row : List Str := ["pot", "wide", "most", "size", "stretch", "k"]
abbrev P_law_row : List Str := ["pot", "wide", "most"]
theorem sc_law_row : FnScope N_law_row P_law_row (defScope s_law_row) := ⟨rfl, rfl, rfl, by decide +kernel, rfl, by decide +kernel, by decide +kernel⟩
abbrev N_law_kind_of : List Str := ["e", "some", "words"]
abbrev P_law_kind_of : List Str := ["e"]
theorem sc_law_kind_of : FnScope N_law_kind_of P_law_kind_of (defScope s_law_kind_of) := ⟨rfl, rfl, rfl, by decide +kernel, rfl, by decide +kernel, by decide +kernel⟩
abbrev N_law_desk_told : List Str := ["desk", "thing", "e"]
abbrev P_law_desk_told : List Str := ["desk", "thing"]
theorem sc_law_desk_told : FnScope N_law_desk_told P_law_desk_told (defScope s_law_desk_told) := ⟨rfl, rfl, rfl, by decide +kernel, rfl, by decide +kernel, by decide +kernel⟩
abbrev N_law_number : List Str := ["word", "most", "sign"]
abbrev P_law_number : List Str := ["word", "most"]
theorem sc_law_number : FnScope N_law_number P_law_number (defScope s_law_number) := ⟨rfl, rfl, rfl, by decide +kernel, rfl, by decide +kernel, by decide +kernel⟩
abbrev N_law_is_machine_text : List Str := ["text", "words", "word", "sign"]
abbrev P_law_is_machine_text : List Str := ["text"]
theorem sc_law_is_machine_text : FnScope N_law_is_machine_text P_law_is_machine_text (defScope s_law_is_machine_text) := ⟨rfl, rfl, rfl, by decide +kernel, rfl, by decide +kernel, by decide +kernel⟩
abbrev N_law_is_row : List Str := ["text", "words"]
abbrev P_law_is_row : List Str := ["text"]
theorem sc_law_is_row : FnScope N_law_is_row P_law_is_row (defScope s_law_is_row) := ⟨rfl, rfl, rfl, by decide +kernel, rfl, by decide +kernel, by decide +kernel⟩
abbrev N_law_bent : List Str := ["pot", "text", "at", "sign", "words", "place", "some"]
abbrev P_law_bent : List Str := ["pot", "text"]
theorem sc_law_bent : FnScope N_law_bent P_law_bent (defScope s_law_bent) := ⟨rfl, rfl, rfl, by decide +kernel, rfl, by decide +kernel, by decide +kernel⟩
abbrev N_law_seen : List Str := ["desk", "text"]
abbrev P_law_seen : List Str := ["desk"]
theorem sc_law_seen : FnScope N_law_seen P_law_seen (defScope s_law_seen) := ⟨rfl, rfl, rfl, by decide +kernel, rfl, by decide +kernel, by decide +kernel⟩
abbrev N_law : List Str := ["script", "desk", "bare", "text", "k", "pot", "rows", "odd", "thing", "none", "ahead", "told"]
abbrev P_law : List Str := ["script"]
theorem sc_law : FnScope N_law P_law (defScope s_law) := ⟨rfl, rfl, rfl, by decide +kernel, rfl, by decide +kernel, by decide +kernel⟩
end Tg

namespace Tg
open PySem PySem.Spec PyProof.Rows L2
/-! ### a sign, so many times -/
def rMulS : R2 := fun x y H Q => ∃ (c n : Nat), x = .str ⟨#[c]⟩ ∧ y = .int (n : Int) ∧ n ≤ 1000 ∧ Q (.str ⟨(List.replicate n c).toArray⟩) H
theorem fold_one (c : Nat) : ∀ (n : Nat) (acc : List Nat), (List.replicate n (#[c] : Array Nat)).foldl (· ++ ·) acc.toArray = (acc ++ List.replicate n c).toArray
  | 0, acc => by simp
  | n + 1, acc => by
    rw [List.replicate_succ, List.foldl_cons]
    have e : acc.toArray ++ (#[c] : Array Nat) = (acc ++ [c]).toArray := by simp
    rw [e, fold_one c n (acc ++ [c])]
    simp [List.replicate_succ]
theorem op_mulS {X : Cx} : OpR X (binaryOp .Mult) rMulS := by
  intro pins s σ H x y v u Q I rx ry h
  obtain ⟨c, n, rfl, rfl, hn, q⟩ := h
  obtain ⟨t, rfl⟩ := rx
  obtain ⟨t', rfl⟩ := ry
  have hl1 : (⟨#[c]⟩ : Str).length = 1 := rfl
  refine P.mul_str (by simp; omega) (fun h1 h2 => ?_) (fun h1 h2 => ?_) ?_
  · rw [hl1]
    have h3 : ((n : Int) == 1) = false := by
      simp only [Bool.or_eq_false_iff] at h2
      exact h2.1
    have : ¬ (n : Int) = 1 := by simpa using h3
    have hd : (1 : Int) ≤ (2 ^ 63 - 1) / (n : Int) := by
      rw [Int.le_ediv_iff_mul_le (by omega)]
      omega
    show ¬ ((1 : Nat) : Int) > _
    omega
  · rw [hl1]
    show Builtin.Str.tooLong (1 * (n : Int).toNat) = false
    unfold Builtin.Str.tooLong
    rw [decide_eq_false]
    rw [sizeLine_eq]
    simp
    omega
  · by_cases h0 : n = 0
    · subst h0
      rw [if_pos (by decide)]
      exact ⟨by decide, .str ⟨(List.replicate 0 c).toArray⟩, H, I.tok _, ⟨_, rfl⟩, q⟩
    · rw [if_neg (by omega)]
      by_cases h1 : n = 1
      · subst h1
        rw [if_pos (by simp)]
        exact ⟨.str ⟨(List.replicate 1 c).toArray⟩, H, I, ⟨_, rfl⟩, q⟩
      · rw [if_neg (by
          have a : ¬ (n : Int) = 1 := by omega
          simp [hl1]
          omega)]
        have e : (List.replicate (n : Int).toNat (#[c] : Array Nat)).foldl (· ++ ·) #[] = (List.replicate n c).toArray := by
          have := fold_one c n []
          simpa using this
        show Made.post (Made.str ⟨(List.replicate (n : Int).toNat (#[c] : Array Nat)).foldl (· ++ ·) #[]⟩) _ _
        rw [e]
        refine ⟨?_, .str ⟨(List.replicate n c).toArray⟩, H, I.tok _, ⟨_, rfl⟩, q⟩
        show (List.replicate n c).toArray.size ≤ sizeLine
        rw [sizeLine_eq]
        simp
        omega
/-! ### how often a flat thing stands in a list -/
def rCntF (K : PySem.W.Frag) : V → List V → Hp → VK → Prop := fun x xs H Q => ∃ (p : Addr) (ys : List V) (y : V), x = .ref p ∧ xs = [y] ∧ SqL K H p ys ∧ flatV y = true ∧ ys.all flatV = true ∧ Q (.int (ys.countP (fun z => eqV z y) : Nat)) H
theorem countP_eqU {y : V} : ∀ {ys : List V} {us : List Value}, Vals ys us → ys.all flatV = true → us.countP (eqU y) = ys.countP (fun z => eqV z y)
  | _, _, .nil, _ => rfl
  | _, _, .cons r t, f => by
    simp only [List.all_cons, Bool.and_eq_true] at f
    rw [List.countP_cons, List.countP_cons, countP_eqU t f.2, eqU_of r f.1]
theorem mt_cntF {X : Cx} : MtR X "list.count" (rCntF X.K) := by
  intro pins s σ H x xs v us Q I rx rxs h
  obtain ⟨p, ys, y, rfl, rfl, hs, fy, fys, q⟩ := h
  cases rx
  obtain ⟨uy, rfl, ry⟩ := rxs.one
  obtain ⟨its, rv, ⟨⟨cls, dd, data, sl⟩, n, ho, hc, hdn, hd⟩, hlen⟩ := I.list hs
  simp only at hc hd
  subst hc hd
  refine call_meets PySem.F.slot_list_count ⟨_, ho, rfl⟩ PySem.F.entry_list_count (PySem.F.args_list_count_2 _ _)
    (SeqAt.list_countAt p its.toArray n dd sl uy (eqU y)) ⟨ho, fun u' hu' => mem_eqAt ry fy rv fys u' (by simpa using hu'), ?_⟩
  refine ⟨.int (ys.countP (fun z => eqV z y) : Nat), H, I.tok _, ⟨s.toks, ?_⟩, q⟩
  show Value.int ((its.toArray.toList.countP (eqU y) : Nat) : Int) s.toks = _
  rw [show its.toArray.toList = its from by simp, countP_eqU rv fys]
/-! ### a list against an empty one -/
def rEqNil (K : PySem.W.Frag) : R2 := fun x y H Q => ∃ (a b : Addr) (xs : List V), x = .ref a ∧ y = .ref b ∧ SqL K H a xs ∧ SqL K H b [] ∧ Q (.bl xs.isEmpty) H
theorem op_eqNil {X : Cx} (hu : X.A.units < cLine) : OpR X (compareOp .Eq) (rEqNil X.K) := by
  intro pins s σ H x y v u Q I rx ry h
  obtain ⟨a, b, xs, rfl, rfl, ha, hb, q⟩ := h
  cases rx
  cases ry
  obtain ⟨its, rv, ⟨o1, n1, p1⟩, _⟩ := I.list ha
  obtain ⟨it2, rv2, ⟨o2, n2, p2⟩, _⟩ := I.list hb
  cases rv2
  have l1 : s.heap.IsList a its.toArray := ⟨o1, p1.1, p1.2.1, n1, p1.2.2.2⟩
  have l2 : s.heap.IsList b ([] : List Value).toArray := ⟨o2, p2.1, p2.2.1, n2, p2.2.2.2⟩
  cases rv with
  | nil => exact SeqAt.eq_listAt (e := fun _ => true) l1 l2 rfl hu (fun j h1 => absurd h1 (by simp)) ⟨.bl true, H, I, rfl, q⟩
  | cons r t => exact SeqAt.eq_list_lengthsAt l1 l2 (by simp) hu ⟨.bl false, H, I, rfl, q⟩
/-! ### zip of two plain texts -/
section
variable {prog : Program} {w : World} {A : Around} {E : Value → Shared → Prop} {s : Shared}
abbrev zs1 (h : Heap) (v : Value) : Heap := h.push { cls := .type "str_ascii_iterator", data := .fields #[v, .int 0 0] }
abbrev zs2 (h : Heap) (v u : Value) : Heap := (zs1 h v).push { cls := .type "str_ascii_iterator", data := .fields #[u, .int 0 0] }
abbrev zs3 (h : Heap) (v u : Value) : Heap := (zs2 h v u).push { cls := .type "tuple", data := .seq #[.ref h.objs.size, .ref (zs1 h v).objs.size] }
abbrev zs4 (h : Heap) (v u : Value) : Heap := (zs3 h v u).push { cls := .type "tuple", data := .seq #[.none, .none] }
abbrev zs5 (h : Heap) (v u : Value) : Heap := (zs4 h v u).push { cls := .type "zip", data := .fields #[.none, .bool false, .bool false, .ref (zs2 h v u).objs.size, .ref (zs3 h v u).objs.size] }
theorem meets_zs (x y : Str) (t u : Tok) (hx : x.cps.all (· < 128) = true) (hy : y.cps.all (· < 128) = true) :
    Meets (Builtin.«zip.__new__» ⟨[.type "zip", .str x t, .str y u], []⟩) (fun _ Rr sh => Rr (.ok (.ret (.ref (zs4 sh.heap (.str x t) (.str y u)).objs.size))) { sh with heap := zs5 sh.heap (.str x t) (.str y u) }) :=
  .of_wp fun prog w A R s h => by
    obtain ⟨hp, g, d, tk, os⟩ := s
    have hsub := sub_zip
    wp_walk using wpAny_pyIter_ascii hx, wpAny_pyIter_ascii hy
    exact ⟨_, rfl, h⟩
theorem call_zs {x y : Str} {t u : Tok} {Q : Value → Shared → Prop} (hx : x.cps.all (· < 128) = true) (hy : y.cps.all (· < 128) = true)
    (h : ∀ hb : Heap, IsZip hb (s.heap.objs.size + 4) (s.heap.objs.size + 2) (s.heap.objs.size + 3) .none → IsTupOf2 hb (s.heap.objs.size + 2) (.ref s.heap.objs.size) (.ref (s.heap.objs.size + 1)) →
      IsTupOf2 hb (s.heap.objs.size + 3) .none .none → hb.IsStrIter s.heap.objs.size "str_ascii_iterator" x t 0 → hb.IsStrIter (s.heap.objs.size + 1) "str_ascii_iterator" y u 0 →
      (∀ c o, s.heap.get? c = some o → hb.get? c = some o) → Q (.ref (s.heap.objs.size + 4)) { s with heap := hb }) :
    wpAny (model prog w) A (call (.type "zip") [.str x t, .str y u]) Q E s := by
  refine callType_new F.called_zip (by decide) (F.typeCall_zip_2 _ _) (F.newCall_zip_2 _ _) (fun ob => F.args_object_init_3 ob _ _) F.entry_zip_new (meets_zs x y t u hx hy) ?_
  obtain ⟨hp, gg, dd, tk, os⟩ := s
  have n1 : (zs1 hp (.str x t)).objs.size = hp.objs.size + 1 := Heap.size_push ..
  have n2 : (zs2 hp (.str x t) (.str y u)).objs.size = hp.objs.size + 2 := by rw [Heap.size_push, n1]
  have n3 : (zs3 hp (.str x t) (.str y u)).objs.size = hp.objs.size + 3 := by rw [Heap.size_push, n2]
  have n4 : (zs4 hp (.str x t) (.str y u)).objs.size = hp.objs.size + 4 := by rw [Heap.size_push, n3]
  have b5 : (zs5 hp (.str x t) (.str y u)).get? (zs4 hp (.str x t) (.str y u)).objs.size = some _ := Heap.get?_push_size _ rfl
  have b4 : (zs5 hp (.str x t) (.str y u)).get? (zs3 hp (.str x t) (.str y u)).objs.size = some _ := Heap.get?_push_of_some _ (Heap.get?_push_size _ rfl)
  have b3 : (zs5 hp (.str x t) (.str y u)).get? (zs2 hp (.str x t) (.str y u)).objs.size = some _ := Heap.get?_push_of_some _ (Heap.get?_push_of_some _ (Heap.get?_push_size _ rfl))
  have b2 : (zs5 hp (.str x t) (.str y u)).get? (zs1 hp (.str x t)).objs.size = some _ := Heap.get?_push_of_some _ (Heap.get?_push_of_some _ (Heap.get?_push_of_some _ (Heap.get?_push_size _ rfl)))
  have b1 : (zs5 hp (.str x t) (.str y u)).get? hp.objs.size = some _ := Heap.get?_push_of_some _ (Heap.get?_push_of_some _ (Heap.get?_push_of_some _ (Heap.get?_push_of_some _ (Heap.get?_push_size _ rfl))))
  rw [n2, n3, n4] at b5
  rw [n1, n2] at b3
  rw [n3] at b4
  rw [n1] at b2
  have e4 : (zs4 hp (.str x t) (.str y u)).objs.size = hp.objs.size + 4 := n4
  refine (show _ ∧ _ from ⟨?_, ?_⟩)
  · rw [e4]
    exact ⟨_, b5, rfl⟩
  · rw [e4]
    exact h _ b5 b3 b4 ⟨_, b1, rfl, rfl⟩ ⟨_, b2, rfl, rfl⟩ fun c o z => Heap.get?_push_of_some _ (Heap.get?_push_of_some _ (Heap.get?_push_of_some _ (Heap.get?_push_of_some _ (Heap.get?_push_of_some _ z))))
end
/-- the signs of two texts, side by side, in new pairs -/
def ItzS (x y : Str) : It :=
  ⟨fun i _ => i < min x.cps.size y.cps.size, fun i H v H' => ∃ T c d, v = .ref T ∧ H T = none ∧ H' = upd H T (.tup [.str ⟨#[c]⟩, .str ⟨#[d]⟩]) ∧ x.cps[i]? = some c ∧ y.cps[i]? = some d, fun i _ => i = min x.cps.size y.cps.size⟩
theorem turn_zs {P : Program} {w : World} {K : PySem.W.Frag} {elts : List Expr} {kk : Nat} {tpos : Pos} {z TI TO i1 i2 : Addr} (S : ZipSep2 z TI TO i1 i2 [i1] [i2]) (x y : Str) (t u : Tok) :
    Turn P w K (.Tuple elts kk tpos) (ItzS x y) (z :: TI :: TO :: ([i1] ++ [i2])) z
      (fun i h => IsZip h z TI TO .none ∧ IsTupOf2 h TI (.ref i1) (.ref i2) ∧ (∃ a1 a2, IsTupOf2 h TO a1 a2) ∧ h.IsStrIter i1 "str_ascii_iterator" x t i ∧ h.IsStrIter i2 "str_ascii_iterator" y u i) where
  mem := List.mem_cons_self ..
  obj := fun i h st c hc => by
    obtain ⟨hz, hTI, ⟨a, b, hTO⟩, ⟨o1, e1, _, d1⟩, ⟨o2, e2, _, d2⟩⟩ := st
    have q : c = z ∨ c = TI ∨ c = TO ∨ c = i1 ∨ c = i2 := by simpa using hc
    rcases q with rfl | rfl | rfl | rfl | rfl
    · exact ⟨_, hz, fun v q => nomatch q⟩
    · exact ⟨_, hTI, fun v q => nomatch q⟩
    · exact ⟨_, hTO, fun v q => nomatch q⟩
    · exact ⟨o1, e1, fun v q => by rw [d1] at q; cases q⟩
    · exact ⟨o2, e2, fun v q => by rw [d2] at q; cases q⟩
  keep := fun i h hb st k => by
    obtain ⟨hz, hTI, ⟨a, b, hTO⟩, ⟨o1, e1, r1⟩, ⟨o2, e2, r2⟩⟩ := st
    exact ⟨k z (by simp) _ hz, k TI (by simp) _ hTI, ⟨a, b, k TO (by simp) _ hTO⟩, ⟨o1, k i1 (by simp) _ e1, r1⟩, ⟨o2, k i2 (by simp) _ e2, r2⟩⟩
  item := by
    intro X hP hw hK hc i pins s σ H E I hf st hg
    subst hP hw hK
    have hh : X.A.in1.handled = none := I.ok.hd hc
    have W := WalksT.zipD2 (prog := X.prog) (w := X.w) (A := X.A) S (Draws.strAscii hh i1 x t) (Draws.strAscii hh i2 y u)
    have hzl : z < s.heap.objs.size := Heap.lt_size st.1
    refine W.item i s _ _ hg st fun T vals hb tk hP hT hTup hM kp => ?_
    obtain ⟨x1, x2, ⟨c, tc, hcx, rfl⟩, ⟨d, td, hdy, rfl⟩, rfl⟩ := hP
    refine ⟨_, rfl, W.go elts kk tpos i T { s with heap := hb, toks := tk } _ _ hM fun hd st2 kp2 => ?_⟩
    obtain ⟨oT, hoT, hcT, nT, hdT⟩ := hTup
    have hT2 : hd.get? T = some oT := kp2 T oT (W.apart i T hb hM) hoT
    have sub : ∀ b, b ∉ z :: TI :: TO :: ([i1] ++ [i2]) → b ∉ [z, TO, i1, i2] := fun b hb' q => hb' (W.sub b q)
    have new : ObjOk X.prog X.w (upd H T (.tup [.str ⟨#[c]⟩, .str ⟨#[d]⟩])) hd T (.tup [.str ⟨#[c]⟩, .str ⟨#[d]⟩]) :=
      ⟨by show 2 ≤ sizeLine; decide, [_, _], .cons ⟨tc, rfl⟩ (.cons ⟨td, rfl⟩ .nil), ⟨oT, hT2, hcT, nT, hdT⟩⟩
    have I1 : Inv X pins σ (upd H T (.tup [.str ⟨#[c]⟩, .str ⟨#[d]⟩])) { s with heap := hd, toks := tk } :=
      I.turnedNew (t' := tk) (ch := z :: TI :: TO :: ([i1] ++ [i2])) (fun b o hb' e => kp2 b o (sub b hb') (kp b o (sub b hb') e)) hf hT new
    refine ⟨.ref T, _, I1, rfl, ⟨T, c, d, rfl, I.hok.fresh hT, rfl, hcx, hdy⟩, st2, fun b hb' => ?_⟩
    have hlt : b < s.heap.objs.size := by
      obtain ⟨hz, hTI, ⟨a, b', hTO⟩, ⟨o1, e1, _⟩, ⟨o2, e2, _⟩⟩ := st
      have q : b = z ∨ b = TI ∨ b = TO ∨ b = i1 ∨ b = i2 := by simpa using hb'
      rcases q with rfl | rfl | rfl | rfl | rfl
      · exact hzl
      · exact Heap.lt_size hTI
      · exact Heap.lt_size hTO
      · exact Heap.lt_size e1
      · exact Heap.lt_size e2
    rw [upd_ne (Nat.ne_of_lt (Nat.lt_of_lt_of_le hlt hT))]
    exact (hf b hb').1
  done := by
    intro X hP hw hK hc i pins s σ H E I hf st hg
    subst hP hw hK
    have hh : X.A.in1.handled = none := I.ok.hd hc
    have W := WalksT.zipD2 (prog := X.prog) (w := X.w) (A := X.A) S (Draws.strAscii hh i1 x t) (Draws.strAscii hh i2 y u)
    have e : i = min x.cps.size y.cps.size := hg
    subst e
    exact W.done s _ _ st fun hb tk kp => ⟨rfl, I.turnedL (t' := tk) (ch := z :: TI :: TO :: ([i1] ++ [i2])) (fun b o hb' e => kp b o (fun q => hb' (W.sub b q)) e) hf⟩
  self := fun A i s Q E st h => wpAny_pyIter_zip st.1 h
def iZipS (ta : TA) : TI := fun σ H R => ta σ H fun vs H1 => ∃ x y : Str, vs = [.str x, .str y] ∧ x.cps.all (· < 128) = true ∧ y.cps.all (· < 128) = true ∧ R (ItzS x y) H1
theorem pi_zipS {X : Cx} {e e2 : Expr} {ta : TA} {p pos tpos : Pos} {elts : List Expr} {kk : Nat} (hg : Gl X "zip") (hm : X.mg "zip" = none) (ha : PA X [e, e2] ta)
    (h1 : starEach [e, e2] X.env = (false, eval e X.env) :: starEach [e2] X.env := by rfl) (h2 : (backTo pos (starEach [e2] X.env)).any (·.1) = false := by rfl) :
    PI X (.Tuple elts kk tpos) (.Call (.Name "zip" p) [e, e2] [] pos) (iZipS ta) := by
  refine ⟨fun pins s σ H R I h => ?_⟩
  refine Call_ (ld_blt I hg hm PyProof.Rows.boot_zip (PyProof.Rows.callWith_type1 (thn (ha.run pos pins s σ H _ I h) fun us s1 ⟨vs, H1, I1, r1, q1⟩ => ?_) h1 h2))
  obtain ⟨x, y, rfl, hx, hy, q⟩ := q1
  cases r1 with
  | cons r rr =>
    cases rr with
    | cons r' rr =>
      cases rr
      obtain ⟨t, rfl⟩ := r
      obtain ⟨u, rfl⟩ := r'
      refine call_zs hx hy fun hb hz hTI hTO j1 j2 kp => wpAny_pyIter_zip hz ?_
      have I2 : Inv X pins σ H1 { s1 with heap := hb } := I1.kept (t' := s1.toks) kp
      have S : ZipSep2 (s1.heap.objs.size + 4) (s1.heap.objs.size + 2) (s1.heap.objs.size + 3) s1.heap.objs.size (s1.heap.objs.size + 1) [s1.heap.objs.size] [s1.heap.objs.size + 1] := by
        constructor <;> first | (simp; done) | (simp <;> omega) | omega
      refine ⟨s1.heap.objs.size + 4, _, _, _, H1, rfl, I2, turn_zs S x y t u, ⟨hz, hTI, ⟨_, _, hTO⟩, j1, j2⟩, fun c hc => ?_, q⟩
      have le : s1.heap.objs.size ≤ c := by
        have q : c = s1.heap.objs.size + 4 ∨ c = s1.heap.objs.size + 2 ∨ c = s1.heap.objs.size + 3 ∨ c = s1.heap.objs.size ∨ c = s1.heap.objs.size + 1 := by simpa using hc
        rcases q with e | e | e | e | e <;> rw [e] <;> first | exact Nat.le_add_right _ _ | exact Nat.le_refl _
      exact I1.fpOk le (I1.hok.fresh le)
end Tg

namespace Tg
open PySem PySem.Spec PyProof.Rows L2
/-! ### a method's call whose errors are wished for at the caller's slots (a try's body) -/
section
variable {X : Cx} {CX : CXT} {k : Nat} {f C : Addr} {fd : FuncData} {ps : List Str} {sp : Sp} {E : L2.St → XK} {m : Str} {pos apos : Pos} {e o : Expr} {es : List Expr} {ta : TE} {t : TA}
theorem pe_methW {pl : Sem Bool} (he : PE X o ta) (c : Cls X.K C) (hm : Meth X.K C m f) (F : FnOk X.prog X.w X.K X.mg X.base CX k f fd ps sp) (hr : Room k X.A) (hb : Binds X.K fd ps []) (hx : ∀ σ, PassesAt CX X σ (E σ)) (ha : PA X (e :: es) t)
    (h1 : starEach (e :: es) X.env = (false, eval e X.env) :: starEach es X.env := by rfl) (h2 : (backTo pos (starEach es X.env)).any (·.1) = false := by rfl)
    (h3 : eval (.Call (.Attribute o m apos) (e :: es) [] pos) X.env = (do
      let w ← eval o X.env
      standAt apos.atName
      let (g, args) ← holding [w] (getMethod w m pl)
      callWith pos g args (backTo pos (starEach (e :: es) X.env)) (backToKw pos (keywordEach [] X.env))) := by rfl) :
    PE X (.Call (.Attribute o m apos) (e :: es) [] pos) (L2H.tMethH C m sp E ta t) := by
  refine ⟨fun pins s σ H Q I h => ?_⟩
  refine PySem.W.methodCall_KW (pl := pl) (thn (he.run pins s σ H _ I h) fun u s1 hh => ?_) h3
  obtain ⟨x, H1, I1, rx, a, dx, fs, ex, ea, l, q⟩ := hh
  subst ex
  obtain rfl : u = Value.ref a := rx
  refine getmeth_ok I1 ea c hm l (PySem.W.callWith_K (first := [.ref a]) (h₀ := X.base) I.ok.mod.kin hm.kp (thn (ha.run pos pins s1 σ H1 _ I1 q) fun us s2 h2 => ?_) h1 h2)
  obtain ⟨vs, H2, I2, r, q2⟩ := h2
  exact ⟨I2.kIn, run_fnS (us := .ref a :: us) (vs := .ref a :: vs) F hr hb (hx σ) I2 (.cons rfl r) q2⟩
end
/-! ### isinstance of the error that is held -/
def rIsX (K : PySem.W.Frag) (a : Addr) (cls : Value) (d : Option Addr) : List V → Hp → VK → Prop := fun xs H Q =>
  ∃ (D : Addr) (c : V) (cv : Value) (b : Bool), cls = .ref D ∧ d = none ∧ ExcC K D ∧ xs = [.ref a, c] ∧ (∀ u, RelV c u → u = cv) ∧ PySem.W.kitOne K (.ref D) cv = some b ∧ Q (.bl b) H
theorem call_isX {X : Cx} {a : Addr} {oe : Obj} {cls : Value} {d : Option Addr} (hp : (a, oe) ∈ X.pn) (hz : Zc cls d oe) (hf : ∃ vs, oe.data = .fields vs) : CallR X (.builtin "isinstance") (rIsX X.K a cls d) := by
  intro pins s σ H xs us Q I r h
  obtain ⟨D, c, cv, b, rfl, rfl, C, rfl, hcv, e, q⟩ := h
  cases r with
  | cons rx rr =>
    cases rr with
    | cons rt rr =>
      cases rr
      cases rx
      have ec := hcv _ rt
      subst ec
      obtain ⟨hget, _⟩ := I.pin (a, oe) (List.mem_append_left _ hp)
      obtain ⟨vs, hv⟩ := hf
      have J : PySem.W.InstAt s.heap a oe D none := by
        obtain ⟨oc, od, oda, osl⟩ := oe
        obtain ⟨z1, z2⟩ := hz
        dsimp only at z1 z2 hv
        subst z1 z2 hv
        exact ⟨hget, rfl, rfl, trivial⟩
      exact PySem.W.kia_one (PySem.W.handS_kitx_exc C.hg C.hk C.hs C.hd C.ha C.hn C.ht C.hm) I.kIn J e (fun z => nomatch z) fun tk => ⟨.bl b, H, I.kept (t' := tk) fun _ _ z => z, rfl, q⟩
/-! ### a def that is called while an error is held -/
/-- the error's place, its class -/
abbrev SpE := Addr → Value → Sp
structure FnE (P : Program) (w : World) (K : PySem.W.Frag) (mg : Str → Option Value) (base : Heap) (k : Nat) (f : Addr) (fd : FuncData) (ps : List Str) (sp : SpE) : Prop where
  len : ∀ a cls vs H Q E, sp a cls vs H Q E → vs.length = ps.length
  run : ∀ (A : Around) (outer : List Env) (s : Shared) (H : Hp) (args : Args) (us : List Value) (vs : List V) (Q : VK) (E : XK) (p : Addr × Obj) (cls : Value), L2H.RoomH k A → L2H.PinOk outer H s p → Zc cls none p.2 → (∃ fs, p.2.data = .fields fs) →
    Env0 P w K mg base A outer s H → BindsTo s fd args (ps.zip us) → Vals vs us → sp p.1 cls vs H Q E → codeAny (model P w) A (.call (.ref f) args) (CR CX0 outer P w H s Q E) s
theorem fn_ofE {P : Program} {w : World} {K : PySem.W.Frag} {mg : Str → Option Value} {base : Heap} {k : Nat} {f : Addr} {fd : FuncData} {name qual : Str} {params : Arguments} {body : List Stmt} {scope : Scope} {N ps : List Str} {sp : SpE}
    (F : FunD K name qual params body scope [] [] f fd) (S : FnScope N ps scope) (len : ∀ a cls vs H Q E, sp a cls vs H Q E → vs.length = ps.length)
    (hbody : ∀ (cdv : Value) (A : Around) (outer : List Env) (s : Shared) (H : Hp) (vs : List V) (Q : VK) (E : XK) (p : Addr × Obj) (cls : Value), Zc cls none p.2 → (∃ fs, p.2.data = .fields fs) → L2H.RoomH k (A.deeper (envOfC qual scope s.heap.objs.size f cdv)) → sp p.1 cls vs H Q E →
      ∃ t, PSs (L2H.cxH CX0 P w K mg base N qual scope f cdv A outer s H E p) body t ∧ t { nx := fun _ H' => Q .non H', rt := Q } (L2.start N vs) H) :
    FnE P w K mg base (k + 1) f fd ps sp := by
  obtain ⟨oc, od, dV, kV, doc, pm, an, cdv, ct, osl, rfl, lk, hcd, _, _⟩ := F.ex
  refine ⟨len, fun A outer s H args us vs Q E p cls hr hpin hz hf e0 hb r hsp => ?_⟩
  have hl := len _ _ _ _ _ _ hsp
  have KX : K.In s.heap := e0.mod.kin.keeps fun b o e => (e0.bs b o e).1
  have lim : s.heap.NoLimit := e0.mod.nolimit.keeps fun b o e => (e0.bs b o e).1
  have kinds : ∀ y ∈ ps.zip us, scope.names.lookup y.1 = some .local ∨ (scope.names.lookup y.1 = some .cell ∧ ((cellsFrom (s.heap.objs.size + 1) scope.names []).lookup y.1).isSome = true) := fun ⟨n, v⟩ hy =>
    (S.par n (List.of_mem_zip hy).1).imp id fun q => ⟨q, PySem.W.cellsFrom_some _ _ _ (.inl q)⟩
  refine codeAny_call_function hr.depth (KX _ _ lk) rfl S.co S.gen rfl (PySem.W.codeRec_of KX hcd) (hb _ _ _ _ ?_)
  refine wpAny_newFunctionEnv_cells S.kind kinds fun env he s1 x => ?_
  subst he
  obtain ⟨t, ht, hq⟩ := hbody cdv A outer s H vs Q E p cls hz hf (hr.deeper _) hsp
  have I : Inv (L2H.cxH CX0 P w K mg base N qual scope f cdv A outer s H E p) [] (L2.start N vs) H s1 := L2H.inv_startH S hpin e0 hl r x
  refine ⟨lim.keeps x.toInCall.keep, codeAny_func (wpAny_mono (ht.run [] s1 (L2.start N vs) H _ I hq) (fun fl s2 hs => ?_) fun e s2 hs => hs)⟩
  have fin : ∀ {σ2 : L2.St} {H2 : Hp} {v : V} {u : Value}, Inv (L2H.cxH CX0 P w K mg base N qual scope f cdv A outer s H E p) [] σ2 H2 s2 → RelV v u → Q v H2 → CE outer P w H s Q u s2 :=
    fun {σ2 H2 v u} J rv q => ⟨v, H2, J.os, J.bare, J.base, J.hok, rv, q⟩
  cases fl with
  | ret u =>
    obtain ⟨v, σ2, H2, J, rv, q⟩ := hs
    exact fin J rv q
  | next =>
    obtain ⟨σ2, H2, J, q⟩ := hs
    exact fin (v := V.non) (u := Value.none) J rfl q
  | brk => exact hs.elim fun _ z => z.elim fun _ z => z.2.elim
  | cont => exact hs.elim fun _ z => z.elim fun _ z => z.2.elim
section
variable {X : Cx} {k : Nat} {f : Addr} {fd : FuncData} {ps : List Str} {sp : SpE} {x : Str} {q pos : Pos} {e : Expr} {es : List Expr} {t : TA} {a : Addr} {oe : Obj} {cls : Value} {d : Option Addr}
def tCallE (sp : SpE) (a : Addr) (cls : Value) (d : Option Addr) (t : TA) : TE := fun σ H Q => t σ H fun vs H1 => d = none ∧ sp a cls vs H1 Q E0
theorem pe_callE (F : FnE X.prog X.w X.K X.mg X.base k f fd ps sp) (hr : L2H.RoomH k X.A) (hp : (a, oe) ∈ X.pn) (hz : Zc cls d oe) (hf : ∃ vs, oe.data = .fields vs) (hg : Gl X x) (hm : X.mg x = some (.ref f)) (hk : PySem.W.keepIn X.K (.ref f) = true) (hb : Binds X.K fd ps [])
    (ha : PA X (e :: es) t) (h0 : (x == ("__debug__" : Str)) = false := by decide) (h1 : starEach (e :: es) X.env = (false, eval e X.env) :: starEach es X.env := by rfl) (h2 : (backTo pos (starEach es X.env)).any (·.1) = false := by rfl) :
    PE X (.Call (.Name x q) (e :: es) [] pos) (tCallE sp a cls d t) := by
  refine ⟨fun pins s σ H Q I h => wpAny_Call_Name_kw (ld_glob I hg hm (PySem.W.callWith_K (h₀ := X.base) I.ok.mod.kin hk (thn (ha.run pos pins s σ H _ I h) fun us s1 hh => ?_) h1 h2) h0)⟩
  obtain ⟨vs, H1, I1, r, hd, hq⟩ := hh
  subst hd
  refine ⟨I1.kIn, ?_⟩
  have hl : us.length = ps.length := r.length.symm.trans (F.len _ _ _ _ _ _ hq)
  have b := hb s1 us I1.kIn (by rw [List.append_nil]; exact hl)
  rw [List.append_nil] at b
  obtain ⟨g1, g2, g3, g4, g5⟩ := I1.pin (a, oe) (List.mem_append_left _ hp)
  have pin : L2H.PinOk X.stack H1 s1 (a, oe) := ⟨g1, g2, fun z => (List.mem_cons.mp (I1.stkSub a z)).elim g3 g4, g5⟩
  refine wpAny_call (codeAny_mono (F.run X.A X.stack s1 H1 ⟨us, []⟩ us vs Q E0 (a, oe) cls hr pin hz hf I1.env0 b r hq) fun rs s2 h => ?_)
  cases rs with
  | error z => exact h.elim
  | ok fl => cases fl <;> first | exact I1.after h | exact False.elim h
end
end Tg

namespace Tg
open PySem PySem.Spec PyProof.Rows L2
/-! ### a def by its promise -/
structure Kp (P : Program) (w : World) (K : PySem.W.Frag) (mg : Str → Option Value) (base : Heap) (CX : CXT) (k : Nat) (f : Addr) (ps : List Str) (sp : Sp) : Prop where
  ex : ∃ fd, FnOk P w K mg base CX k f fd ps sp ∧ Binds K fd ps []
  kp : PySem.W.keepIn K (.ref f) = true
abbrev Fd (K : PySem.W.Frag) (p : Str × Option Str) (name qual : Str) (st : Stmt) : Prop := ∃ fd, FunD K name qual (defArgs st) (defBody st) (defScope st) [] [] (He.fAd K p) fd
section
variable {P : Program} {w : World} {K : PySem.W.Frag} {mg : Str → Option Value} {base : Heap}
theorem Kp.of {CX : CXT} {N ps : List Str} {k : Nat} {sp : Sp} {p : Str × Option Str} {name qual : Str} {st : Stmt} (F : Fd K p name qual st) (S : FnScope N ps (defScope st))
    (hb : ∀ (kV doc pm : Value) (an : Option Addr) (cdv ct : Value) (us : List Value), us.length = ps.length → bindArgs (PySem.W.fnOf name qual (defArgs st) (defBody st) (defScope st) .none kV doc pm an cdv ct) ⟨us, []⟩ = pure (ps.zip us))
    (len : ∀ vs H Q E, sp vs H Q E → vs.length = ps.length)
    (body : ∀ (f : Addr) (cdv : Value) (A : Around) (outer : List Env) (s : Shared) (H : Hp) (vs : List V) (Q : VK) (E : XK), Room k (A.deeper (envOfC qual (defScope st) s.heap.objs.size f cdv)) → sp vs H Q E →
      ∃ t, PSs (cxOf CX P w K mg base N qual (defScope st) f cdv A outer s H E) (defBody st) t ∧ t { nx := fun _ H' => Q .non H', rt := Q } (L2.start N vs) H) :
    Kp P w K mg base CX (k + 1) (He.fAd K p) ps sp := by
  obtain ⟨fd, F⟩ := F
  exact ⟨⟨fd, F.ok S len (fun cdv A outer s H vs Q E hr h => body _ cdv A outer s H vs Q E hr h), F.bindsN hb⟩, F.kp⟩
theorem Kp.mono {CX : CXT} {j k : Nat} {f : Addr} {ps : List Str} {sp : Sp} (G : Kp P w K mg base CX j f ps sp) (h : j ≤ k) : Kp P w K mg base CX k f ps sp := by
  obtain ⟨⟨fd, F, b⟩, kp⟩ := G
  exact ⟨⟨fd, F.mono h, b⟩, kp⟩
theorem Kp.imp {CX : CXT} {k : Nat} {f : Addr} {ps : List Str} {sp sp' : Sp} (G : Kp P w K mg base CX k f ps sp) (h : ∀ vs H Q E, sp' vs H Q E → sp vs H Q E) : Kp P w K mg base CX k f ps sp' := by
  obtain ⟨⟨fd, F, b⟩, kp⟩ := G
  exact ⟨⟨fd, F.imp h, b⟩, kp⟩
end
section
variable {X : Cx} {CX : CXT} {k : Nat} {f C : Addr} {ps : List Str} {sp : Sp} {E : XK} {x m : Str} {q pos apos : Pos} {e o : Expr} {es : List Expr} {ta : TE} {t : TA}
theorem pe_fn (G : Kp X.prog X.w X.K X.mg X.base CX k f ps sp) (hr : Room k X.A) (hg : Gl X x) (hm : X.mg x = some (.ref f)) (hx : Passes CX X E) (ha : PA X (e :: es) t)
    (h0 : (x == ("__debug__" : Str)) = false := by decide) (h1 : starEach (e :: es) X.env = (false, eval e X.env) :: starEach es X.env := by rfl) (h2 : (backTo pos (starEach es X.env)).any (·.1) = false := by rfl) :
    PE X (.Call (.Name x q) (e :: es) [] pos) (tCall sp [] E t) := by
  obtain ⟨⟨fd, F, b⟩, kp⟩ := G
  exact pe_call F hr hg hm kp b .nil hx ha h0 h1 h2
theorem pe_fnS {E : L2.St → XK} (G : Kp X.prog X.w X.K X.mg X.base CX k f ps sp) (hr : Room k X.A) (hg : Gl X x) (hm : X.mg x = some (.ref f)) (hx : ∀ σ, PassesAt CX X σ (E σ)) (ha : PA X (e :: es) t)
    (h0 : (x == ("__debug__" : Str)) = false := by decide) (h1 : starEach (e :: es) X.env = (false, eval e X.env) :: starEach es X.env := by rfl) (h2 : (backTo pos (starEach es X.env)).any (·.1) = false := by rfl) :
    PE X (.Call (.Name x q) (e :: es) [] pos) (tCallS sp E t) := by
  obtain ⟨⟨fd, F, b⟩, kp⟩ := G
  exact pe_callS F hr hg hm kp b hx ha h0 h1 h2
theorem pe_mt {pl : Sem Bool} (he : PE X o ta) (c : Cls X.K C) (hm : Meth X.K C m f) (G : Kp X.prog X.w X.K X.mg X.base CX k f ps sp) (hr : Room k X.A) (hx : Passes CX X E) (ha : PA X (e :: es) t)
    (h1 : starEach (e :: es) X.env = (false, eval e X.env) :: starEach es X.env := by rfl) (h2 : (backTo pos (starEach es X.env)).any (·.1) = false := by rfl)
    (h3 : eval (.Call (.Attribute o m apos) (e :: es) [] pos) X.env = (do
      let w ← eval o X.env
      standAt apos.atName
      let (g, args) ← holding [w] (getMethod w m pl)
      callWith pos g args (backTo pos (starEach (e :: es) X.env)) (backToKw pos (keywordEach [] X.env))) := by rfl) :
    PE X (.Call (.Attribute o m apos) (e :: es) [] pos) (tMeth C m sp [] E ta t) := by
  obtain ⟨⟨fd, F, b⟩, kp⟩ := G
  exact pe_meth he c hm F hr b .nil hx ha h1 h2 h3
theorem pe_mt0 {pl : Sem Bool} (he : PE X o ta) (c : Cls X.K C) (hm : Meth X.K C m f) (G : Kp X.prog X.w X.K X.mg X.base CX k f ps sp) (hr : Room k X.A) (hx : Passes CX X E)
    (h3 : eval (.Call (.Attribute o m apos) [] [] pos) X.env = (do
      let w ← eval o X.env
      standAt apos.atName
      let (g, args) ← holding [w] (getMethod w m pl)
      callWith pos g args (backTo pos (starEach [] X.env)) (backToKw pos (keywordEach [] X.env))) := by rfl) :
    PE X (.Call (.Attribute o m apos) [] [] pos) (tMeth C m sp [] E ta tNil) := by
  obtain ⟨⟨fd, F, b⟩, kp⟩ := G
  exact pe_meth0 he c hm F hr b .nil hx h3
theorem pe_mtW {E : L2.St → XK} {pl : Sem Bool} (he : PE X o ta) (c : Cls X.K C) (hm : Meth X.K C m f) (G : Kp X.prog X.w X.K X.mg X.base CX k f ps sp) (hr : Room k X.A) (hx : ∀ σ, PassesAt CX X σ (E σ)) (ha : PA X (e :: es) t)
    (h1 : starEach (e :: es) X.env = (false, eval e X.env) :: starEach es X.env := by rfl) (h2 : (backTo pos (starEach es X.env)).any (·.1) = false := by rfl)
    (h3 : eval (.Call (.Attribute o m apos) (e :: es) [] pos) X.env = (do
      let w ← eval o X.env
      standAt apos.atName
      let (g, args) ← holding [w] (getMethod w m pl)
      callWith pos g args (backTo pos (starEach (e :: es) X.env)) (backToKw pos (keywordEach [] X.env))) := by rfl) :
    PE X (.Call (.Attribute o m apos) (e :: es) [] pos) (L2H.tMethH C m sp E ta t) := by
  obtain ⟨⟨fd, F, b⟩, kp⟩ := G
  exact pe_methW he c hm F hr b hx ha h1 h2 h3
theorem pe_mk {M : Addr} (hM : Mk X.K C f) (G : Kp X.prog X.w X.K X.mg X.base CX k f ps sp) (hr : Room (k + 1) X.A) (hg : Gl X x) (hm : X.mg x = some (.ref C)) (hx : Passes CX X E) (ha : PA X (e :: es) t)
    (h0 : (x == ("__debug__" : Str)) = false := by decide) (h1 : starEach (e :: es) X.env = (false, eval e X.env) :: starEach es X.env := by rfl) (h2 : (backTo pos (starEach es X.env)).any (·.1) = false := by rfl) :
    PE X (.Call (.Name x q) (e :: es) [] pos) (tMake C sp [] E t) := by
  obtain ⟨⟨fd, F, b⟩, kp⟩ := G
  exact pe_make hM F hr hg hm b .nil hx ha h0 h1 h2
theorem pe_mk0 (hM : Mk X.K C f) (G : Kp X.prog X.w X.K X.mg X.base CX k f ps sp) (hr : Room (k + 1) X.A) (hg : Gl X x) (hm : X.mg x = some (.ref C)) (hx : Passes CX X E)
    (h0 : (x == ("__debug__" : Str)) = false := by decide) :
    PE X (.Call (.Name x q) [] [] pos) (tMake C sp [] E tNil) := by
  obtain ⟨⟨fd, F, b⟩, kp⟩ := G
  exact pe_make0 hM F hr hg hm b .nil hx h0
end
/-! ### an own error, made with a text -/
structure Er (K : PySem.W.Frag) (mg : Str → Option Value) (x : Str) (C : Addr) : Prop where
  q : PySem.W.excIn K C He.veBase "ValueError.__new__" = true
  g : mg x = some (.ref C)
  k : PySem.W.keepIn K (.ref C) = true
  b : PySem.W.subIn K (.ref C) (.type "BaseException") = some true
  t : PySem.W.typeIn K (.ref C) = some (.type "type")
section
variable {X : Cx} {C : Addr} {x m : Str} {j : Nat} {p p2 pos pos2 : Pos} {W : WX}
theorem pmkN (T : Er X.K X.mg x C) (hg : Gl X x) (h0 : (x == ("__debug__" : Str)) = false := by decide) : L2N.PMk X (.Call (.Name x p) [.Constant (.str m) j p2] [] pos) (fun _ H Q => Q (.ref C) none H) := by
  intro pins s σ H Q I h
  have ha : PA X [.Constant (.str m) j p2] (tCons (tC (.str m)) tNil) := pa_cons pe_str pa_nil
  refine wpAny_Call_Name_kw (ld_glob I hg T.g (PySem.W.callWith_K (h₀ := X.base) I.ok.mod.kin T.k (thn (ha.run pos pins s σ H (fun vs H1 => vs = [V.str m] ∧ H1 = H) I ⟨rfl, rfl⟩) fun us s1 hh => ?_)) h0)
  obtain ⟨vs, H1, I1, r1, rfl, rfl⟩ := hh
  refine ⟨I1.kIn, ?_⟩
  cases r1 with
  | cons ru rn =>
    rename_i u us'
    cases rn
    show wpAny _ _ (call (.ref C) [u]) _ _ _
    obtain ⟨bm, N, nm, qn, bs, hdct, sn, sub, ab, col, dd, k0, k1, k2, k3, k5, mN, hC, hN, hni, T2⟩ := exc_obj I1.kIn T.q
    refine wpAny_call_exc_subT PySem.F.excBase_ValueError T2 hC hN hni (fun hb e hm => ?_) (by show 1 ≤ sizeLine; rw [sizeLine_eq]; omega)
    exact L2N.mk_of I1 hm (raises_own T.b T.t) h (I1.hok.gone hm.new)
theorem pmkZ {e : Expr} {t : L2.St → Hp → XK → Prop} (h : L2N.PMk X e t) : L2.PMk X e t := fun pins s σ H Q I q => thn (h pins s σ H Q I q) fun u s' z => by
  obtain ⟨a, oe, vs, sI, H', cls, d, e1, J, k, hne, ha, hz, r⟩ := z
  exact ⟨a, oe, vs, sI, H', cls, d, e1, J, k, hne, ha, hz.zc, r⟩
def tEr (C : Addr) (W : WX) : TS := fun _ σ H => W (.ref C) none σ H
/-- raise X('..') where nothing is held -/
theorem ps_er (hc : X.calm = true) (tk : L2.Takes X W) (T : Er X.K X.mg x C) (hg : Gl X x) (h0 : (x == ("__debug__" : Str)) = false := by decide) :
    PS X (.Raise (some (.Call (.Name x p) [.Constant (.str m) j p2] [] pos)) none pos2) (tEr C W) := L2.ps_raise hc tk (pmkZ (pmkN T hg h0))
theorem ps_erN (hc : X.calm = true) (tk : L2N.Takes X W) (T : Er X.K X.mg x C) (hg : Gl X x) (h0 : (x == ("__debug__" : Str)) = false := by decide) :
    PS X (.Raise (some (.Call (.Name x p) [.Constant (.str m) j p2] [] pos)) none pos2) (tEr C W) := L2N.ps_raise hc tk (pmkN T hg h0)
theorem ps_erH (hc : L2H.HotC X) (tk : L2.Takes X W) (T : Er X.K X.mg x C) (hg : Gl X x) (h0 : (x == ("__debug__" : Str)) = false := by decide) :
    PS X (.Raise (some (.Call (.Name x p) [.Constant (.str m) j p2] [] pos)) none pos2) (tEr C W) := L2H.ps_raiseH hc tk (pmkN T hg h0)
end
/-! ### a written dict: get -/
def tKGet (K : PySem.W.Frag) (w : World) (td ty : TE) : TE := fun σ H Q => td σ H fun x H1 => ∃ a es n, x = .ref a ∧ KDict K w a es n ∧ ty σ H1 fun y H2 => ∃ z r v, y = .str z ∧ PySem.W.nsIn K a z = some r ∧ RelV v (r.getD .none) ∧ Q v H2
section
variable {X : Cx} {o e : Expr} {apos cpos : Pos} {td ty : TE}
theorem pe_kget (ho : PE X o td) (he : PE X e ty) (m : M1 X o "get" apos e cpos) : PE X (.Call (.Attribute o "get" apos) [e] [] cpos) (tKGet X.K X.w td ty) := by
  refine ⟨fun pins s σ H Q I h => ?_⟩
  refine wpAny_Call_method m.base m.few m.line PySem.F.plainAttrs_dict PySem.F.slot_dict_get PySem.F.type_dict_get (thn (ho.run pins s σ H _ I h) fun u s1 hh => ?_)
  obtain ⟨x, H1, I1, rx, a, es, n, ex, D, q1⟩ := hh
  subst ex
  obtain rfl : u = Value.ref a := rx
  refine ⟨kd_type D I1, fun b eb => ?_, ?_⟩
  · cases eb
    exact ⟨_, I1.kIn _ _ D.at_, rfl⟩
  · rw [m.trees]
    refine Calls.callWith_builtin rfl (Calls.evalArgs_plain (Calls.spliced_cons (thn (he.run pins s1 σ H1 _ I1 q1) fun iv s2 hh => Calls.spliced_nil ?_)))
    obtain ⟨y, H2, I2, ry, z, r, v, ey, er, rv, q2⟩ := hh
    subst ey
    obtain ⟨t, rfl⟩ := ry
    refine call_meetsIn PySem.F.slot_dict_get (kd_type D I2) PySem.F.entry_dict_get (PySem.F.args_dict_get_2 _ _) (meets_dict_get (strKind X.prog X.w) a (strKind_is X.prog X.w z t) D.low) ⟨_, PySem.W.mapOf_K (prog := X.prog) I2.kIn D.at_ D.lit, ?_⟩
    rw [PySem.W.find_K D.at_ er]
    exact ⟨v, H2, I2.tok _, rv, q2⟩
end
/-- a written dict with text keys: each key's value; no other key stands there -/
structure KTab (K : PySem.W.Frag) (w : World) (a : Addr) (kvs : List (Str × Int)) : Prop where
  d : ∃ es n, KDict K w a es n
  at_ : ∀ q ∈ kvs, ∃ t, PySem.W.nsIn K a q.1 = some (some (.int q.2 t))
  no : ∀ z, z ∉ kvs.map (·.1) → PySem.W.nsIn K a z = some none
theorem ktab_of {K : PySem.W.Frag} {w : World} {a : Addr} {kvs : List (Str × Int)} (h : He.dicW K a = some (He.keysIn w.params (kvs.map (·.1)))) (hv : He.valsB K a (kvs.map fun q => (q.1, .int q.2)) = true) : KTab K w a kvs := by
  refine ⟨He.dicW_ok h, fun q hq => ?_, fun z hz => ?_⟩
  · obtain ⟨u, e, r⟩ := He.valsB_ok hv (q := (q.1, .int q.2)) (List.mem_map.mpr ⟨q, hq, rfl⟩)
    obtain ⟨t, rfl⟩ := (show ∃ t, u = Value.int q.2 t from r)
    exact ⟨t, e⟩
  · unfold He.dicW at h
    cases q : K.lookup a with
    | none => rw [q] at h; cases h
    | some o =>
      obtain ⟨oc, od, dt, osl⟩ := o
      rw [q] at h
      cases oc with
      | type c =>
        cases od with
        | none =>
          cases dt with
          | dict es n =>
            have h1 : (match decide (c = "dict") && (osl.isEmpty && !(a == sysModules)) with
              | true => some (es.toList.map He.keyOf)
              | false => none) = some (He.keysIn w.params (kvs.map (·.1))) := h
            cases y : decide (c = "dict") && (osl.isEmpty && !(a == sysModules)) with
            | false => rw [y] at h1; cases h1
            | true =>
              rw [y] at h1
              have h2 : es.toList.map He.keyOf = He.keysIn w.params (kvs.map (·.1)) := Option.some.inj h1
              have key : ∀ e ∈ es.toList, ∃ k t, k ∈ kvs.map (·.1) ∧ e.key = .str k t := fun e he => by
                have m : He.keyOf e ∈ He.keysIn w.params (kvs.map (·.1)) := by rw [← h2]; exact List.mem_map_of_mem he
                unfold He.keysIn at m
                obtain ⟨k, hk, ek⟩ := List.mem_map.mp m
                unfold He.keyOf at ek
                split at ek
                · rename_i x t qq
                  have := Option.some.inj ek
                  rw [Prod.mk.injEq] at this
                  exact ⟨x, t, this.1 ▸ hk, qq⟩
                · cases ek
              unfold PySem.W.nsIn
              rw [q]
              have f1 : es.toList.find? (fun e => e.key.isStr z) = none := by
                rw [List.find?_eq_none]
                intro e he hc
                obtain ⟨k, t, hk, ek⟩ := key e he
                rw [ek] at hc
                have : k = z := by
                  simpa [Value.isStr] using hc
                exact hz (this ▸ hk)
              have f2 : es.toList.any (·.refKey) = false := by
                rw [List.any_eq_false]
                intro e he hc
                obtain ⟨k, t, hk, ek⟩ := key e he
                unfold DictEntry.refKey at hc
                rw [ek] at hc
                cases hc
              dsimp only
              rw [f1]
              dsimp only
              rw [f2]
              rfl
          | _ => cases h
        | some b => cases dt <;> cases h
      | _ => cases od <;> cases dt <;> cases h
/-! ### the arguments of each def -/
def Bnd (ps : List Str) (name qual : Str) (st : Stmt) : Prop := ∀ (kV doc pm : Value) (an : Option Addr) (cdv ct : Value) (us : List Value), us.length = ps.length → bindArgs (PySem.W.fnOf name qual (defArgs st) (defBody st) (defScope st) .none kV doc pm an cdv ct) ⟨us, []⟩ = pure (ps.zip us)
theorem bn_is_whole : Bnd P_is_whole "is_whole" "is_whole" s_is_whole := fun _ _ _ _ _ _ us hl => match us, hl with | [_], _ => rfl
theorem bn_is_upto : Bnd P_is_upto "is_upto" "is_upto" s_is_upto := fun _ _ _ _ _ _ us hl => match us, hl with | [_, _, _], _ => rfl
theorem bn_is_text_of : Bnd P_is_text_of "is_text_of" "is_text_of" s_is_text_of := fun _ _ _ _ _ _ us hl => match us, hl with | [_, _], _ => rfl
theorem bn_is_machine : Bnd P_is_machine "is_machine" "is_machine" s_is_machine := fun _ _ _ _ _ _ us hl => match us, hl with | [_], _ => rfl
theorem bn_signs_of : Bnd P_signs_of "signs_of" "signs_of" s_signs_of := fun _ _ _ _ _ _ us hl => match us, hl with | [_], _ => rfl
theorem bn_is_row : Bnd P_is_row "is_row" "is_row" s_is_row := fun _ _ _ _ _ _ us hl => match us, hl with | [_, _], _ => rfl
theorem bn_word_of : Bnd P_word_of "word_of" "word_of" s_word_of := fun _ _ _ _ _ _ us hl => match us, hl with | [_, _], _ => rfl
theorem bn_ends_so : Bnd P_ends_so "ends_so" "ends_so" s_ends_so := fun _ _ _ _ _ _ us hl => match us, hl with | [_, _], _ => rfl
theorem bn_led_from : Bnd P_led_from "led_from" "led_from" s_led_from := fun _ _ _ _ _ _ us hl => match us, hl with | [_, _], _ => rfl
theorem bn_how_many : Bnd P_how_many "how_many" "how_many" s_how_many := fun _ _ _ _ _ _ us hl => match us, hl with | [_, _], _ => rfl
theorem bn_many_before : Bnd P_many_before "many_before" "many_before" s_many_before := fun _ _ _ _ _ _ us hl => match us, hl with | [_, _, _], _ => rfl
theorem bn_rests : Bnd P_rests "rests" "rests" s_rests := fun _ _ _ _ _ _ us hl => match us, hl with | [_, _], _ => rfl
theorem bn_step : Bnd P_step "step" "step" s_step := fun _ _ _ _ _ _ us hl => match us, hl with | [_, _], _ => rfl
theorem bn_path : Bnd P_path "path" "path" s_path := fun _ _ _ _ _ _ us hl => match us, hl with | [_, _, _], _ => rfl
theorem bn_is_name : Bnd P_is_name "is_name" "is_name" s_is_name := fun _ _ _ _ _ _ us hl => match us, hl with | [_], _ => rfl
theorem bn_Bench_init : Bnd P_Bench_init "__init__" "Bench.__init__" s_Bench_init := fun _ _ _ _ _ _ us hl => match us, hl with | [_, _], _ => rfl
theorem bn_Bench_turn_to : Bnd P_Bench_turn_to "turn_to" "Bench.turn_to" s_Bench_turn_to := fun _ _ _ _ _ _ us hl => match us, hl with | [_, _], _ => rfl
theorem bn_Bench_look_for : Bnd P_Bench_look_for "look_for" "Bench.look_for" s_Bench_look_for := fun _ _ _ _ _ _ us hl => match us, hl with | [_, _], _ => rfl
theorem bn_Bench_put : Bnd P_Bench_put "put" "Bench.put" s_Bench_put := fun _ _ _ _ _ _ us hl => match us, hl with | [_, _, _], _ => rfl
theorem bn_Bench_run : Bnd P_Bench_run "run" "Bench.run" s_Bench_run := fun _ _ _ _ _ _ us hl => match us, hl with | [_, _, _], _ => rfl
theorem bn_Bench_drop : Bnd P_Bench_drop "drop" "Bench.drop" s_Bench_drop := fun _ _ _ _ _ _ us hl => match us, hl with | [_, _], _ => rfl
theorem bn_Bench_undo : Bnd P_Bench_undo "undo" "Bench.undo" s_Bench_undo := fun _ _ _ _ _ _ us hl => match us, hl with | [_], _ => rfl
theorem bn_Bench_names : Bnd P_Bench_names "names" "Bench.names" s_Bench_names := fun _ _ _ _ _ _ us hl => match us, hl with | [_], _ => rfl
theorem bn_Bench_row : Bnd P_Bench_row "row" "Bench.row" s_Bench_row := fun _ _ _ _ _ _ us hl => match us, hl with | [_, _], _ => rfl
theorem bn_Bench_gone : Bnd P_Bench_gone "gone" "Bench.gone" s_Bench_gone := fun _ _ _ _ _ _ us hl => match us, hl with | [_, _], _ => rfl
theorem bn_fate : Bnd P_fate "fate" "fate" s_fate := fun _ _ _ _ _ _ us hl => match us, hl with | [_, _, _], _ => rfl
theorem bn_shown_word : Bnd P_shown_word "shown_word" "shown_word" s_shown_word := fun _ _ _ _ _ _ us hl => match us, hl with | [_], _ => rfl
theorem bn_read_word : Bnd P_read_word "read_word" "read_word" s_read_word := fun _ _ _ _ _ _ us hl => match us, hl with | [_], _ => rfl
theorem bn_read : Bnd P_read "read" "read" s_read := fun _ _ _ _ _ _ us hl => match us, hl with | [_], _ => rfl
theorem bn_number_in : Bnd P_number_in "number_in" "number_in" s_number_in := fun _ _ _ _ _ _ us hl => match us, hl with | [_, _], _ => rfl
theorem bn_look_at_words : Bnd P_look_at_words "look_at_words" "look_at_words" s_look_at_words := fun _ _ _ _ _ _ us hl => match us, hl with | [_], _ => rfl
theorem bn_Desk_init : Bnd P_Desk_init "__init__" "Desk.__init__" s_Desk_init := fun _ _ _ _ _ _ us hl => match us, hl with | [_], _ => rfl
theorem bn_Desk_say : Bnd P_Desk_say "say" "Desk.say" s_Desk_say := fun _ _ _ _ _ _ us hl => match us, hl with | [_, _], _ => rfl
theorem bn_Desk_begin : Bnd P_Desk_begin "begin" "Desk.begin" s_Desk_begin := fun _ _ _ _ _ _ us hl => match us, hl with | [_, _], _ => rfl
theorem bn_Desk_done : Bnd P_Desk_done "done" "Desk.done" s_Desk_done := fun _ _ _ _ _ _ us hl => match us, hl with | [_, _], _ => rfl
theorem bn_Desk_answered : Bnd P_Desk_answered "answered" "Desk.answered" s_Desk_answered := fun _ _ _ _ _ _ us hl => match us, hl with | [_, _, _], _ => rfl
theorem bn_law_cell_at : Bnd P_law_cell_at "_law_cell_at" "_law_cell_at" s_law_cell_at := fun _ _ _ _ _ _ us hl => match us, hl with | [_, _], _ => rfl
theorem bn_law_pot : Bnd P_law_pot "_law_pot" "_law_pot" s_law_pot := fun _ _ _ _ _ _ us hl => match us, hl with | [_], _ => rfl
theorem bn_law_take : Bnd P_law_take "_law_take" "_law_take" s_law_take := fun _ _ _ _ _ _ us hl => match us, hl with | [_, _], _ => rfl
theorem bn_law_row : Bnd P_law_row "_law_row" "_law_row" s_law_row := fun _ _ _ _ _ _ us hl => match us, hl with | [_, _, _], _ => rfl
theorem bn_law_kind_of : Bnd P_law_kind_of "_law_kind_of" "_law_kind_of" s_law_kind_of := fun _ _ _ _ _ _ us hl => match us, hl with | [_], _ => rfl
theorem bn_law_desk_told : Bnd P_law_desk_told "_law_desk_told" "_law_desk_told" s_law_desk_told := fun _ _ _ _ _ _ us hl => match us, hl with | [_, _], _ => rfl
theorem bn_law_number : Bnd P_law_number "_law_number" "_law_number" s_law_number := fun _ _ _ _ _ _ us hl => match us, hl with | [_, _], _ => rfl
theorem bn_law_is_machine_text : Bnd P_law_is_machine_text "_law_is_machine_text" "_law_is_machine_text" s_law_is_machine_text := fun _ _ _ _ _ _ us hl => match us, hl with | [_], _ => rfl
theorem bn_law_is_row : Bnd P_law_is_row "_law_is_row" "_law_is_row" s_law_is_row := fun _ _ _ _ _ _ us hl => match us, hl with | [_], _ => rfl
theorem bn_law_bent : Bnd P_law_bent "_law_bent" "_law_bent" s_law_bent := fun _ _ _ _ _ _ us hl => match us, hl with | [_, _], _ => rfl
theorem bn_law_seen : Bnd P_law_seen "_law_seen" "_law_seen" s_law_seen := fun _ _ _ _ _ _ us hl => match us, hl with | [_], _ => rfl
theorem bn_law : Bnd P_law "law" "law" s_law := fun _ _ _ _ _ _ us hl => match us, hl with | [_], _ => rfl
/-! ### what the top has left -/
structure Txt (w : World) (K : PySem.W.Frag) (mg : Str → Option Value) : Prop where
  g_TagError : mg "TagError" = some (.ref (He.ga K "TagError"))
  g_NoText : mg "NoText" = some (.ref (He.ga K "NoText"))
  g_AtRest : mg "AtRest" = some (.ref (He.ga K "AtRest"))
  g_TooMany : mg "TooMany" = some (.ref (He.ga K "TooMany"))
  g_TooFew : mg "TooFew" = some (.ref (He.ga K "TooFew"))
  g_NoOrder : mg "NoOrder" = some (.ref (He.ga K "NoOrder"))
  g_NoMachine : mg "NoMachine" = some (.ref (He.ga K "NoMachine"))
  g_NoSign : mg "NoSign" = some (.ref (He.ga K "NoSign"))
  g_NoName : mg "NoName" = some (.ref (He.ga K "NoName"))
  g_NoDeed : mg "NoDeed" = some (.ref (He.ga K "NoDeed"))
  g_NoRow : mg "NoRow" = some (.ref (He.ga K "NoRow"))
  g_is_whole : mg "is_whole" = some (.ref (He.ga K "is_whole"))
  g_is_upto : mg "is_upto" = some (.ref (He.ga K "is_upto"))
  g_is_text_of : mg "is_text_of" = some (.ref (He.ga K "is_text_of"))
  g_is_machine : mg "is_machine" = some (.ref (He.ga K "is_machine"))
  g_signs_of : mg "signs_of" = some (.ref (He.ga K "signs_of"))
  g_is_row : mg "is_row" = some (.ref (He.ga K "is_row"))
  g_word_of : mg "word_of" = some (.ref (He.ga K "word_of"))
  g_ends_so : mg "ends_so" = some (.ref (He.ga K "ends_so"))
  g_led_from : mg "led_from" = some (.ref (He.ga K "led_from"))
  g_how_many : mg "how_many" = some (.ref (He.ga K "how_many"))
  g_many_before : mg "many_before" = some (.ref (He.ga K "many_before"))
  g_rests : mg "rests" = some (.ref (He.ga K "rests"))
  g_step : mg "step" = some (.ref (He.ga K "step"))
  g_path : mg "path" = some (.ref (He.ga K "path"))
  g_is_name : mg "is_name" = some (.ref (He.ga K "is_name"))
  g_Bench : mg "Bench" = some (.ref (He.ga K "Bench"))
  g_fate : mg "fate" = some (.ref (He.ga K "fate"))
  g_FRONTS : mg "FRONTS" = some (.ref (He.ga K "FRONTS"))
  g_shown_word : mg "shown_word" = some (.ref (He.ga K "shown_word"))
  g_read_word : mg "read_word" = some (.ref (He.ga K "read_word"))
  g_read : mg "read" = some (.ref (He.ga K "read"))
  g_FORMS : mg "FORMS" = some (.ref (He.ga K "FORMS"))
  g_BOUNDS : mg "BOUNDS" = some (.ref (He.ga K "BOUNDS"))
  g_number_in : mg "number_in" = some (.ref (He.ga K "number_in"))
  g_look_at_words : mg "look_at_words" = some (.ref (He.ga K "look_at_words"))
  g_Desk : mg "Desk" = some (.ref (He.ga K "Desk"))
  g_law_cell_at : mg "_law_cell_at" = some (.ref (He.ga K "_law_cell_at"))
  g_law_pot : mg "_law_pot" = some (.ref (He.ga K "_law_pot"))
  g_law_take : mg "_law_take" = some (.ref (He.ga K "_law_take"))
  g_law_row : mg "_law_row" = some (.ref (He.ga K "_law_row"))
  g_law_kind_of : mg "_law_kind_of" = some (.ref (He.ga K "_law_kind_of"))
  g_law_desk_told : mg "_law_desk_told" = some (.ref (He.ga K "_law_desk_told"))
  g_law_number : mg "_law_number" = some (.ref (He.ga K "_law_number"))
  g_law_is_machine_text : mg "_law_is_machine_text" = some (.ref (He.ga K "_law_is_machine_text"))
  g_law_is_row : mg "_law_is_row" = some (.ref (He.ga K "_law_is_row"))
  g_law_bent : mg "_law_bent" = some (.ref (He.ga K "_law_bent"))
  g_law_seen : mg "_law_seen" = some (.ref (He.ga K "_law_seen"))
  g_law : mg "law" = some (.ref (He.ga K "law"))
  f_isinstance : mg "isinstance" = none
  f_int : mg "int" = none
  f_bool : mg "bool" = none
  f_str : mg "str" = none
  f_tuple : mg "tuple" = none
  f_len : mg "len" = none
  f_all : mg "all" = none
  f_zip : mg "zip" = none
  f_range : mg "range" = none
  f_dict : mg "dict" = none
  f_sorted : mg "sorted" = none
  f_max : mg "max" = none
  f_min : mg "min" = none
  f_ValueError : mg "ValueError" = none
  c_LETTERS : ∃ t, mg "LETTERS" = some (.str "abcdefgh" t)
  c_MOST_FRONT : ∃ t, mg "MOST_FRONT" = some (.int 4 t)
  c_MOST_SIGNS : ∃ t, mg "MOST_SIGNS" = some (.int 8 t)
  c_LONGEST : ∃ t, mg "LONGEST" = some (.int 8 t)
  c_ANY : ∃ t, mg "ANY" = some (.str "?" t)
  c_MOST_NAMES : ∃ t, mg "MOST_NAMES" = some (.int 12 t)
  c_LONGEST_NAME : ∃ t, mg "LONGEST_NAME" = some (.int 8 t)
  c_LONGEST_ROW : ∃ t, mg "LONGEST_ROW" = some (.int 200 t)
  c_NAME_LETTERS : ∃ t, mg "NAME_LETTERS" = some (.str "abcdefghijklmnopqrstuvwxyz" t)
  c_NONE : ∃ t, mg "NONE" = some (.str "-" t)
  c_FIGURES : ∃ t, mg "FIGURES" = some (.str "0123456789" t)
  c_MOST_FIGURES : ∃ t, mg "MOST_FIGURES" = some (.int 4 t)
  cl_Bench : Cls K (He.ga K "Bench")
  mk_Bench : Mk K (He.ga K "Bench") (He.fAd K ("Bench", some "__init__"))
  cl_Desk : Cls K (He.ga K "Desk")
  mk_Desk : Mk K (He.ga K "Desk") (He.fAd K ("Desk", some "__init__"))
  na_device : NoAttr K (He.ga K "Bench") "device"
  na_kept : NoAttr K (He.ga K "Bench") "kept"
  na_earlier : NoAttr K (He.ga K "Bench") "earlier"
  na_own : NoAttr K (He.ga K "Desk") "own"
  d_is_whole : Fd K ("is_whole", none) "is_whole" "is_whole" s_is_whole
  d_is_upto : Fd K ("is_upto", none) "is_upto" "is_upto" s_is_upto
  d_is_text_of : Fd K ("is_text_of", none) "is_text_of" "is_text_of" s_is_text_of
  d_is_machine : Fd K ("is_machine", none) "is_machine" "is_machine" s_is_machine
  d_signs_of : Fd K ("signs_of", none) "signs_of" "signs_of" s_signs_of
  d_is_row : Fd K ("is_row", none) "is_row" "is_row" s_is_row
  d_word_of : Fd K ("word_of", none) "word_of" "word_of" s_word_of
  d_ends_so : Fd K ("ends_so", none) "ends_so" "ends_so" s_ends_so
  d_led_from : Fd K ("led_from", none) "led_from" "led_from" s_led_from
  d_how_many : Fd K ("how_many", none) "how_many" "how_many" s_how_many
  d_many_before : Fd K ("many_before", none) "many_before" "many_before" s_many_before
  d_rests : Fd K ("rests", none) "rests" "rests" s_rests
  d_step : Fd K ("step", none) "step" "step" s_step
  d_path : Fd K ("path", none) "path" "path" s_path
  d_is_name : Fd K ("is_name", none) "is_name" "is_name" s_is_name
  d_Bench_init : Fd K ("Bench", some "__init__") "__init__" "Bench.__init__" s_Bench_init
  d_Bench_turn_to : Fd K ("Bench", some "turn_to") "turn_to" "Bench.turn_to" s_Bench_turn_to
  m_Bench_turn_to : Meth K (He.ga K "Bench") "turn_to" (He.fAd K ("Bench", some "turn_to"))
  d_Bench_look_for : Fd K ("Bench", some "look_for") "look_for" "Bench.look_for" s_Bench_look_for
  m_Bench_look_for : Meth K (He.ga K "Bench") "look_for" (He.fAd K ("Bench", some "look_for"))
  d_Bench_put : Fd K ("Bench", some "put") "put" "Bench.put" s_Bench_put
  m_Bench_put : Meth K (He.ga K "Bench") "put" (He.fAd K ("Bench", some "put"))
  d_Bench_run : Fd K ("Bench", some "run") "run" "Bench.run" s_Bench_run
  m_Bench_run : Meth K (He.ga K "Bench") "run" (He.fAd K ("Bench", some "run"))
  d_Bench_drop : Fd K ("Bench", some "drop") "drop" "Bench.drop" s_Bench_drop
  m_Bench_drop : Meth K (He.ga K "Bench") "drop" (He.fAd K ("Bench", some "drop"))
  d_Bench_undo : Fd K ("Bench", some "undo") "undo" "Bench.undo" s_Bench_undo
  m_Bench_undo : Meth K (He.ga K "Bench") "undo" (He.fAd K ("Bench", some "undo"))
  d_Bench_names : Fd K ("Bench", some "names") "names" "Bench.names" s_Bench_names
  m_Bench_names : Meth K (He.ga K "Bench") "names" (He.fAd K ("Bench", some "names"))
  d_Bench_row : Fd K ("Bench", some "row") "row" "Bench.row" s_Bench_row
  m_Bench_row : Meth K (He.ga K "Bench") "row" (He.fAd K ("Bench", some "row"))
  d_Bench_gone : Fd K ("Bench", some "gone") "gone" "Bench.gone" s_Bench_gone
  m_Bench_gone : Meth K (He.ga K "Bench") "gone" (He.fAd K ("Bench", some "gone"))
  d_fate : Fd K ("fate", none) "fate" "fate" s_fate
  d_shown_word : Fd K ("shown_word", none) "shown_word" "shown_word" s_shown_word
  d_read_word : Fd K ("read_word", none) "read_word" "read_word" s_read_word
  d_read : Fd K ("read", none) "read" "read" s_read
  d_number_in : Fd K ("number_in", none) "number_in" "number_in" s_number_in
  d_look_at_words : Fd K ("look_at_words", none) "look_at_words" "look_at_words" s_look_at_words
  d_Desk_init : Fd K ("Desk", some "__init__") "__init__" "Desk.__init__" s_Desk_init
  d_Desk_say : Fd K ("Desk", some "say") "say" "Desk.say" s_Desk_say
  m_Desk_say : Meth K (He.ga K "Desk") "say" (He.fAd K ("Desk", some "say"))
  d_Desk_begin : Fd K ("Desk", some "begin") "begin" "Desk.begin" s_Desk_begin
  m_Desk_begin : Meth K (He.ga K "Desk") "begin" (He.fAd K ("Desk", some "begin"))
  d_Desk_done : Fd K ("Desk", some "done") "done" "Desk.done" s_Desk_done
  m_Desk_done : Meth K (He.ga K "Desk") "done" (He.fAd K ("Desk", some "done"))
  d_Desk_answered : Fd K ("Desk", some "answered") "answered" "Desk.answered" s_Desk_answered
  m_Desk_answered : Meth K (He.ga K "Desk") "answered" (He.fAd K ("Desk", some "answered"))
  d_law_cell_at : Fd K ("_law_cell_at", none) "_law_cell_at" "_law_cell_at" s_law_cell_at
  d_law_pot : Fd K ("_law_pot", none) "_law_pot" "_law_pot" s_law_pot
  d_law_take : Fd K ("_law_take", none) "_law_take" "_law_take" s_law_take
  d_law_row : Fd K ("_law_row", none) "_law_row" "_law_row" s_law_row
  d_law_kind_of : Fd K ("_law_kind_of", none) "_law_kind_of" "_law_kind_of" s_law_kind_of
  d_law_desk_told : Fd K ("_law_desk_told", none) "_law_desk_told" "_law_desk_told" s_law_desk_told
  d_law_number : Fd K ("_law_number", none) "_law_number" "_law_number" s_law_number
  d_law_is_machine_text : Fd K ("_law_is_machine_text", none) "_law_is_machine_text" "_law_is_machine_text" s_law_is_machine_text
  d_law_is_row : Fd K ("_law_is_row", none) "_law_is_row" "_law_is_row" s_law_is_row
  d_law_bent : Fd K ("_law_bent", none) "_law_bent" "_law_bent" s_law_bent
  d_law_seen : Fd K ("_law_seen", none) "_law_seen" "_law_seen" s_law_seen
  d_law : Fd K ("law", none) "law" "law" s_law
  e_NoText : Er K mg "NoText" (He.ga K "NoText")
  x_NoText : PySem.W.exmOne K (.ref (He.ga K "NoText")) (.ref (He.ga K "TagError")) = some true
  t_NoText : PySem.W.exmOne K (.ref (He.ga K "NoText")) (.ref (He.ga K "NoText")) = some true
  i_NoText : ExcC K (He.ga K "NoText")
  v_NoText : PySem.W.kitOne K (.ref (He.ga K "NoText")) (.type "ValueError") = some true
  e_NoMachine : Er K mg "NoMachine" (He.ga K "NoMachine")
  x_NoMachine : PySem.W.exmOne K (.ref (He.ga K "NoMachine")) (.ref (He.ga K "TagError")) = some true
  t_NoMachine : PySem.W.exmOne K (.ref (He.ga K "NoMachine")) (.ref (He.ga K "NoText")) = some false
  i_NoMachine : ExcC K (He.ga K "NoMachine")
  v_NoMachine : PySem.W.kitOne K (.ref (He.ga K "NoMachine")) (.type "ValueError") = some true
  e_NoSign : Er K mg "NoSign" (He.ga K "NoSign")
  x_NoSign : PySem.W.exmOne K (.ref (He.ga K "NoSign")) (.ref (He.ga K "TagError")) = some true
  t_NoSign : PySem.W.exmOne K (.ref (He.ga K "NoSign")) (.ref (He.ga K "NoText")) = some false
  i_NoSign : ExcC K (He.ga K "NoSign")
  v_NoSign : PySem.W.kitOne K (.ref (He.ga K "NoSign")) (.type "ValueError") = some true
  e_NoName : Er K mg "NoName" (He.ga K "NoName")
  x_NoName : PySem.W.exmOne K (.ref (He.ga K "NoName")) (.ref (He.ga K "TagError")) = some true
  t_NoName : PySem.W.exmOne K (.ref (He.ga K "NoName")) (.ref (He.ga K "NoText")) = some false
  i_NoName : ExcC K (He.ga K "NoName")
  v_NoName : PySem.W.kitOne K (.ref (He.ga K "NoName")) (.type "ValueError") = some true
  e_NoDeed : Er K mg "NoDeed" (He.ga K "NoDeed")
  x_NoDeed : PySem.W.exmOne K (.ref (He.ga K "NoDeed")) (.ref (He.ga K "TagError")) = some true
  t_NoDeed : PySem.W.exmOne K (.ref (He.ga K "NoDeed")) (.ref (He.ga K "NoText")) = some false
  i_NoDeed : ExcC K (He.ga K "NoDeed")
  v_NoDeed : PySem.W.kitOne K (.ref (He.ga K "NoDeed")) (.type "ValueError") = some true
  e_NoRow : Er K mg "NoRow" (He.ga K "NoRow")
  x_NoRow : PySem.W.exmOne K (.ref (He.ga K "NoRow")) (.ref (He.ga K "TagError")) = some true
  t_NoRow : PySem.W.exmOne K (.ref (He.ga K "NoRow")) (.ref (He.ga K "NoText")) = some false
  i_NoRow : ExcC K (He.ga K "NoRow")
  v_NoRow : PySem.W.kitOne K (.ref (He.ga K "NoRow")) (.type "ValueError") = some true
  e_TooMany : Er K mg "TooMany" (He.ga K "TooMany")
  x_TooMany : PySem.W.exmOne K (.ref (He.ga K "TooMany")) (.ref (He.ga K "TagError")) = some true
  t_TooMany : PySem.W.exmOne K (.ref (He.ga K "TooMany")) (.ref (He.ga K "NoText")) = some false
  i_TooMany : ExcC K (He.ga K "TooMany")
  v_TooMany : PySem.W.kitOne K (.ref (He.ga K "TooMany")) (.type "ValueError") = some true
  kit : ∀ x ∈ (["NoText", "NoMachine", "NoSign", "NoName", "NoDeed", "NoRow", "TooMany"] : List Str), ∀ y ∈ (["AtRest", "NoDeed", "NoMachine", "NoName", "NoOrder", "NoRow", "NoSign", "NoText", "TooFew", "TooMany"] : List Str), PySem.W.kitOne K (.ref (He.ga K x)) (.ref (He.ga K y)) = some (decide (x = y))
  fronts : ∀ H, SqL K H (He.ga K "FRONTS") [.str "1", .str "2", .str "3", .str "4"]
  forms : KTab K w (He.ga K "FORMS") [("put", 3), ("drop", 2), ("undo", 1), ("run", 3), ("row", 2), ("gone", 2), ("names", 1), ("fate", 3), ("count", 3)]
  bounds : KTab K w (He.ga K "BOUNDS") [("run", 200), ("fate", 400), ("count", 4)]
end Tg

namespace Tg
open PySem PySem.Spec PyProof.Rows L2
/-! ### texts over signs -/
def allIn (t z : Str) : Bool := t.cps.toList.all fun c => decide (c ∈ z.cps.toList)
def letters : Str := "abcdefgh"
def sg (n : Nat) : Str := ⟨(letters.cps.toList.take n).toArray⟩
theorem letters_eq : letters = ⟨#[97, 98, 99, 100, 101, 102, 103, 104]⟩ := by decide +kernel
theorem sg_list (n : Nat) : (sg n).cps.toList = ([97, 98, 99, 100, 101, 102, 103, 104] : List Nat).take n := by
  unfold sg
  rw [letters_eq]
theorem sg_len (n : Nat) : (sg n).length ≤ 8 := by
  have e : (sg n).length = (sg n).cps.toList.length := by simp [Str.length]
  rw [e, sg_list, List.length_take]
  exact Nat.min_le_right _ _
theorem sg_mem {n c : Nat} (h : c ∈ (sg n).cps.toList) : 97 ≤ c ∧ c ≤ 104 := by
  rw [sg_list] at h
  have h2 := List.mem_of_mem_take h
  simp at h2
  omega
theorem len_list (x : Str) : x.cps.toList.length = x.length := by simp [Str.length]
theorem str_ext {x y : Str} (h : x.cps.toList = y.cps.toList) : x = y := by
  obtain ⟨a⟩ := x
  obtain ⟨b⟩ := y
  congr 1
  exact Array.toList_inj.mp h
theorem len_app (x y : Str) : (x ++ y).length = x.length + y.length := by
  rw [← len_list, ← len_list, ← len_list, Str.cps_append, Array.toList_append, List.length_append]
theorem app_list (x y : Str) : (x ++ y).cps.toList = x.cps.toList ++ y.cps.toList := by
  rw [Str.cps_append, Array.toList_append]
theorem allIn_app {x y z : Str} : allIn (x ++ y) z = (allIn x z && allIn y z) := by
  unfold allIn
  rw [app_list, List.all_append]
theorem allIn_of {x z : Str} (h : ∀ c ∈ x.cps.toList, c ∈ z.cps.toList) : allIn x z = true := by
  unfold allIn
  rw [List.all_eq_true]
  intro c hc
  exact decide_eq_true (h c hc)
theorem allIn_at {x z : Str} (h : allIn x z = true) {c : Nat} (hc : c ∈ x.cps.toList) : c ∈ z.cps.toList := by
  unfold allIn at h
  rw [List.all_eq_true] at h
  exact of_decide_eq_true (h c hc)
theorem allIn_empty (z : Str) : allIn "" z = true := by
  unfold allIn
  rw [show ("" : Str).cps.toList = [] by decide +kernel]
  rfl
/-! ### machines -/
def machB (f : Int) (words : List Str) : Bool := decide (1 ≤ f) && decide (f ≤ 4) && (decide (1 ≤ words.length) && decide (words.length ≤ 8) && words.all fun w => allIn w (sg words.length) && decide (w.length ≤ 8))
structure MachOk (f : Int) (words : List Str) : Prop where
  f1 : 1 ≤ f
  f4 : f ≤ 4
  w1 : 1 ≤ words.length
  w8 : words.length ≤ 8
  ws : ∀ w ∈ words, allIn w (sg words.length) = true ∧ w.length ≤ 8
theorem machOk_of {f : Int} {words : List Str} (h : machB f words = true) : MachOk f words := by
  unfold machB at h
  simp only [Bool.and_eq_true, decide_eq_true_eq, List.all_eq_true] at h
  exact ⟨h.1.1, h.1.2, h.2.1.1, h.2.1.2, fun w hw => h.2.2 w hw⟩
/-- a machine stands in the heap -/
def MachT (H : Hp) (m : Addr) (f : Int) (words : List Str) : Prop := ∃ ws, H m = some (.tup [.int f, .ref ws]) ∧ H ws = some (.tup (words.map V.str))
theorem MachT.ex {H H' : Hp} {m : Addr} {f : Int} {words : List Str} (h : MachT H m f words) (e : Evl.Ex H H') : MachT H' m f words := by
  obtain ⟨ws, h1, h2⟩ := h
  exact ⟨ws, e _ _ h1, e _ _ h2⟩
theorem size_of {n : Nat} (h : n ≤ 16000000) : n ≤ sizeLine := by
  rw [sizeLine_eq]
  omega
theorem size_lt {n : Nat} (h : n ≤ 16000000) : n < sizeLine := by
  rw [sizeLine_eq]
  omega
end Tg
namespace Tg
open PySem PySem.Spec PyProof.Rows L2
theorem cut_letters {n : Nat} (h : n ≤ 8) : cutS "abcdefgh" none (some (n : Int)) = sg n := by
  have a : ∀ k : Fin 9, cutS "abcdefgh" none (some ((k.val : Nat) : Int)) = sg k.val := by decide +kernel
  exact a ⟨n, by omega⟩
theorem occ_letters {i : Nat} (h : i < 8) : Builtin.Str.occurrences "abcdefgh" ⟨#[97 + i]⟩ 0 ("abcdefgh" : Str).length 1 = [i] := by
  have a : ∀ k : Fin 8, Builtin.Str.occurrences "abcdefgh" ⟨#[97 + k.val]⟩ 0 ("abcdefgh" : Str).length 1 = [k.val] := by decide +kernel
  exact a ⟨i, h⟩
theorem sg_ix {n c : Nat} (h8 : n ≤ 8) (h : c ∈ (sg n).cps.toList) : ∃ i, i < n ∧ c = 97 + i := by
  rw [sg_list] at h
  obtain ⟨i, hi, e⟩ := List.mem_iff_getElem.mp h
  rw [List.length_take] at hi
  have hi8 : i < 8 := by
    have : i < ([97, 98, 99, 100, 101, 102, 103, 104] : List Nat).length := by omega
    simpa using this
  refine ⟨i, by omega, ?_⟩
  rw [List.getElem_take] at e
  have a : ∀ k : Fin 8, ([97, 98, 99, 100, 101, 102, 103, 104] : List Nat)[k.val]'(by simpa using k.isLt) = 97 + k.val := by decide
  rw [← e]
  exact a ⟨i, hi8⟩
end Tg
namespace Tg
open PySem PySem.Spec PyProof.Rows L2
theorem cutS_sub (z : Str) (lo hi : Option Int) : (cutS z lo hi).cps.toList.Sublist z.cps.toList := by
  unfold cutS
  show (((z.cps.toList.drop _).take _).toArray).toList.Sublist _
  rw [List.toList_toArray]
  exact (List.take_sublist _ _).trans (List.drop_sublist _ _)
theorem cutS_mem {z : Str} {lo hi : Option Int} {c : Nat} (h : c ∈ (cutS z lo hi).cps.toList) : c ∈ z.cps.toList := (cutS_sub z lo hi).subset h
theorem allIn_cut {z s : Str} {lo hi : Option Int} (h : allIn z s = true) : allIn (cutS z lo hi) s = true := allIn_of fun c hc => allIn_at h (cutS_mem hc)
/-! ### dicts -/
section
variable {κ : Type} [DecidableEq κ]
theorem mem_putK {kvs : List (κ × V)} {k : κ} {v : V} {q : κ × V} (h : q ∈ putK kvs k v) : (q.1 = k ∧ q.2 = v) ∨ (q ∈ kvs ∧ q.1 ≠ k) := by
  unfold putK at h
  split at h
  · obtain ⟨p, hp, e⟩ := List.mem_map.mp h
    by_cases hk : p.1 = k
    · rw [if_pos hk] at e
      rw [← e]
      exact .inl ⟨hk, rfl⟩
    · rw [if_neg hk] at e
      rw [← e]
      exact .inr ⟨hp, hk⟩
  · rename_i hn
    rcases List.mem_append.mp h with h1 | h1
    · by_cases hk : q.1 = k
      · exact absurd (List.any_eq_true.mpr ⟨q, h1, decide_eq_true hk⟩) hn
      · exact .inr ⟨h1, hk⟩
    · rw [List.mem_singleton.mp h1]
      exact .inl ⟨rfl, rfl⟩
theorem len_putK {kvs : List (κ × V)} {k : κ} {v : V} : (putK kvs k v).length ≤ kvs.length + 1 := by
  unfold putK
  split
  · rw [List.length_map]
    omega
  · simp
theorem len_putK_in {kvs : List (κ × V)} {k : κ} {v : V} (h : valV kvs k ≠ none) : (putK kvs k v).length = kvs.length := by
  unfold putK
  split
  · rw [List.length_map]
  · rename_i hn
    exfalso
    apply h
    unfold valV
    rw [Option.map_eq_none_iff, List.find?_eq_none]
    intro p hp hc
    exact hn (List.any_eq_true.mpr ⟨p, hp, hc⟩)
theorem mem_valV {kvs : List (κ × V)} {k : κ} {v : V} (h : valV kvs k = some v) : (k, v) ∈ kvs := by
  unfold valV at h
  obtain ⟨p, h1, h2⟩ := Option.map_eq_some_iff.mp h
  have m := List.mem_of_find?_eq_some h1
  have e := List.find?_some h1
  have e2 : p.1 = k := of_decide_eq_true e
  rw [← e2, ← h2]
  exact m
end
end Tg
namespace Tg
open PySem PySem.Spec PyProof.Rows L2
/-! ### texts that data may hold -/
theorem strOk_of {x : Str} (h : ∀ c ∈ x.cps.toList, c < 0x110000) : PyData.strOk x = true := by
  unfold PyData.strOk
  rw [← Array.all_toList, List.all_eq_true]
  exact fun c hc => decide_eq_true (h c hc)
theorem strOk_at {x : Str} (h : PyData.strOk x = true) : ∀ c ∈ x.cps.toList, c < 0x110000 := by
  unfold PyData.strOk at h
  rw [← Array.all_toList, List.all_eq_true] at h
  exact fun c hc => of_decide_eq_true (h c hc)
theorem strOk_sg {x : Str} {n : Nat} (h : allIn x (sg n) = true) : PyData.strOk x = true := strOk_of fun c hc => by
  have := sg_mem (allIn_at h hc)
  omega
theorem strOk_app {x y : Str} (hx : PyData.strOk x = true) (hy : PyData.strOk y = true) : PyData.strOk (x ++ y) = true := strOk_of fun c hc => by
  rw [app_list] at hc
  rcases List.mem_append.mp hc with h | h
  · exact strOk_at hx c h
  · exact strOk_at hy c h
theorem strOk_num {i : Int} (h : 0 ≤ i) : PyData.strOk (Str.ofString (toString i)) = true := by
  obtain ⟨n, rfl⟩ := Int.eq_ofNat_of_zero_le h
  refine strOk_of fun c hc => ?_
  have e : (Str.ofString (toString ((n : Nat) : Int))).cps.toList = TL.numL n := TL.tl_num n
  rw [e] at hc
  have := TL.numL_digits n c hc
  omega
end Tg

namespace Tg
open PySem PySem.Spec PyProof.Rows L2
/-! ### small readings -/
section
variable {K : PySem.W.Frag} {H : Hp}
theorem isi {x : V} {a b : String} {r : Bool} {Q : VK} (ty : TyX K H x (.type a)) (h : kitB a b = some r) (q : Q (.bl r) H) : rIsi K [x, .ty b] H Q := ⟨x, .ty b, .type a, .type b, r, rfl, .ty b, ty, kit_ty h, q⟩
end
theorem ixT_at {K : PySem.W.Frag} {H : Hp} {p : Addr} {xs : List V} {i : Nat} {v : V} {Q : VK} (h : H p = some (.tup xs)) (e : xs[i]? = some v) (q : Q v H) : rIxT K (.ref p) (.int (i : Nat)) H Q :=
  ⟨p, xs, (i : Nat), v, rfl, rfl, SqT.of h, atI_nat e, q⟩
section
variable {P : Program} {w : World} {K : PySem.W.Frag} {mg : Str → Option Value} {base : Heap}
/-! ### whole numbers -/
def spIsWhole : Sp := fun vs H Q _ => ∃ i : Int, vs = [.int i] ∧ Q (.bl true) H
theorem k_is_whole (T : Txt w K mg) : Kp P w K mg base CX0 1 (He.fAd K ("is_whole", none)) P_is_whole spIsWhole := by
  refine Kp.of T.d_is_whole sc_is_whole bn_is_whole (fun vs H Q E h => ?_) (fun f cdv A outer s H vs Q E hr h => ?_)
  · obtain ⟨i, rfl, _⟩ := h
    rfl
  · obtain ⟨i, rfl, q⟩ := h
    refine ⟨_, (pss_one (ps_ret (pe_and (pe_callB call_isi rfl T.f_isinstance (by decide +kernel) (pa_cons (pv 0) (pa_cons (pe_bltn (v := .ty "int") (u := .type "int") rfl T.f_int (by decide +kernel) rfl) pa_nil))) (pe_one (pe_not (pe_callB call_isi rfl T.f_isinstance (by decide +kernel) (pa_cons (pv 0) (pa_cons (pe_bltn (v := .ty "bool") (u := .type "bool") rfl T.f_bool (by decide +kernel) rfl) pa_nil)))))))), ?_⟩
    refine ⟨_, rfl, _, _, _, _, true, rfl, .ty _, .base (.int i), kit_ty (by decide +kernel), true, rfl, iteT ?_⟩
    exact ⟨_, rfl, _, _, _, _, false, rfl, .ty _, .base (.int i), kit_ty (by decide +kernel), false, rfl, q⟩
def spIsUpto : Sp := fun vs H Q _ => ∃ i a b : Int, vs = [.int i, .int a, .int b] ∧ Q (.bl (decide (a ≤ i) && decide (i ≤ b))) H
theorem k_is_upto (T : Txt w K mg) : Kp P w K mg base CX0 2 (He.fAd K ("is_upto", none)) P_is_upto spIsUpto := by
  have G_is_whole := k_is_whole (P := P) (base := base) T
  refine Kp.of T.d_is_upto sc_is_upto bn_is_upto (fun vs H Q E h => ?_) (fun f cdv A outer s H vs Q E hr h => ?_)
  · obtain ⟨i, a, b, rfl, _⟩ := h
    rfl
  · obtain ⟨i, a, b, rfl, q⟩ := h
    refine ⟨_, (pss_one (ps_ret (pe_and (pe_fn G_is_whole (hr.mono (by decide)) rfl T.g_is_whole pass0 (pa_cons (pv 0) pa_nil)) (pe_one (pe_chain op_le op_le (pv 1) (pv 0) (pv 2)))))), ?_⟩
    refine ⟨_, rfl, i, rfl, true, rfl, iteT ?_⟩
    refine ⟨_, rfl, _, rfl, _, _, rfl, rfl, _, rfl, ?_⟩
    refine ite2 (fun h1 => ?_) (fun h1 => ?_)
    · refine ⟨_, rfl, _, _, rfl, rfl, ?_⟩
      rw [h1, Bool.true_and] at q
      exact q
    · have h2 : decide (a ≤ i) = false := by simpa using h1
      rw [h2, Bool.false_and] at q
      exact q
/-! ### texts of signs -/
def spIsTextOf : Sp := fun vs H Q _ => ∃ t z : Str, vs = [.str t, .str z] ∧ Q (.bl (allIn t z)) H
theorem k_is_text_of (T : Txt w K mg) : Kp P w K mg base CX0 1 (He.fAd K ("is_text_of", none)) P_is_text_of spIsTextOf := by
  refine Kp.of T.d_is_text_of sc_is_text_of bn_is_text_of (fun vs H Q E h => ?_) (fun f cdv A outer s H vs Q E hr h => ?_)
  · obtain ⟨t, z, rfl, _⟩ := h
    rfl
  · obtain ⟨t, z, rfl, q⟩ := h
    refine ⟨_, (pss_cons (ps_if (pt_not (pt_val (pe_callB call_isi rfl T.f_isinstance (by decide +kernel) (pa_cons (pv 0) (pa_cons (pe_bltn (v := .ty "str") (u := .type "str") rfl T.f_str (by decide +kernel) rfl) pa_nil))))) (pss_one (ps_ret pe_bl)) pss_nil)
      (pss_cons (ps_for (L2.passes_of rfl) rfl (pi_str (pv 0)) (pg_name (i := 2) sc_is_text_of.nd rfl (by first | exact Or.inl rfl | exact Or.inr rfl)) (pss_one (ps_if (pt_cmpR op_notIn_sign (pv 2) (pv 1) (by rfl)) (pss_one (ps_ret pe_bl)) pss_nil)))
      (pss_one (ps_ret pe_bl)))), ?_⟩
    refine ⟨_, rfl, _, _, _, _, true, rfl, .ty _, .base (.str t), kit_ty (by decide +kernel), true, rfl, iteF ?_⟩
    refine ⟨_, rfl, t, rfl, for_it walk_str (fun i σ H' => H' = H ∧ (∃ v, σ = [some (.str t), some (.str z), v]) ∧ ∀ c ∈ t.cps.toList.take i, c ∈ z.cps.toList) ⟨rfl, ⟨none, rfl⟩, fun c hc => by simp at hc⟩ (fun _ _ _ _ _ => trivial) ?_ ?_⟩
    · rintro i x σ H1 H2 hi ⟨rfl, ⟨v, rfl⟩, hp⟩ ⟨rfl, c, hc, rfl⟩
      refine ⟨_, rfl, _, rfl, c, z, rfl, rfl, _, rfl, ?_⟩
      have hcl : t.cps.toList[i]? = some c := by simpa using hc
      by_cases hm : c ∈ z.cps.toList
      · rw [decide_eq_true hm]
        refine iteF ⟨rfl, ⟨_, rfl⟩, fun d hd => ?_⟩
        rw [List.take_succ, hcl] at hd
        rcases List.mem_append.mp hd with h1 | h1
        · exact hp d h1
        · simp at h1
          rw [h1]
          exact hm
      · rw [decide_eq_false hm]
        refine iteT ?_
        have e : allIn t z = false := by
          cases ea : allIn t z with
          | false => rfl
          | true => exact absurd (allIn_at ea (List.mem_of_getElem? hcl)) hm
        rw [e] at q
        exact q
    · rintro σ H1 ⟨rfl, ⟨v, rfl⟩, hp⟩
      have e : allIn t z = true := allIn_of fun c hc => hp c (by rw [List.take_of_length_le (by simp)]; exact hc)
      rw [e] at q
      exact q
/-! ### machines -/
def spIsMachine : Sp := fun vs H Q _ => ∃ (m ws : Addr) (f : Int) (words : List Str), vs = [.ref m] ∧ H m = some (.tup [.int f, .ref ws]) ∧ H ws = some (.tup (words.map V.str)) ∧ words.length ≤ 10000 ∧ (∀ w ∈ words, w.length ≤ 10000) ∧
  ∀ H', Evl.Ex H H' → Q (.bl (machB f words)) H'
theorem k_is_machine (T : Txt w K mg) : Kp P w K mg base CX0 3 (He.fAd K ("is_machine", none)) P_is_machine spIsMachine := by
  have G_is_upto := k_is_upto (P := P) (base := base) T
  have G_is_text_of := k_is_text_of (P := P) (base := base) T
  refine Kp.of T.d_is_machine sc_is_machine bn_is_machine (fun vs H Q E h => ?_) (fun f cdv A outer s H vs Q E hr h => ?_)
  · obtain ⟨m, ws, f, words, rfl, _⟩ := h
    rfl
  · obtain ⟨m, ws, f, words, rfl, hm, hws, hl, hwl, q⟩ := h
    refine ⟨_, (pss_cons (ps_if (PW.pt (pw_or (pt_not (pt_val (pe_callB call_isi rfl T.f_isinstance (by decide +kernel) (pa_cons (pv 0) (pa_cons (pe_bltn (v := .ty "tuple") (u := .type "tuple") rfl T.f_tuple (by decide +kernel) rfl) pa_nil))))) (pw_or (pt_cmpR op_ne (pe_callB call_len_seq rfl T.f_len (by decide +kernel) (pa_cons (pv 0) pa_nil)) pe_int (nomark _)) (pw_or1 (pt_not (pt_val (pe_fn G_is_upto (hr.mono (by decide)) rfl T.g_is_upto pass0 (pa_cons (pe_ix ix_tup (pv 0) pe_int (fun _ _ => rfl)) (pa_cons pe_int (pa_cons (pe_glob (v := .int 4) rfl (Classical.choose_spec T.c_MOST_FRONT) ⟨_, rfl⟩) pa_nil)))))))))) (pss_one (ps_ret pe_bl)) pss_nil)
      (pss_cons (ps_set (i := 1) sc_is_machine.nd rfl (by first | exact Or.inl rfl | exact Or.inr rfl) (pe_ix ix_tup (pv 0) pe_int (fun _ _ => rfl)))
      (pss_cons (ps_if (PW.pt (pw_or (pt_not (pt_val (pe_callB call_isi rfl T.f_isinstance (by decide +kernel) (pa_cons (pv 1) (pa_cons (pe_bltn (v := .ty "tuple") (u := .type "tuple") rfl T.f_tuple (by decide +kernel) rfl) pa_nil))))) (pw_or1 (pt_not (pt_chain op_le op_le pe_int (pe_callB call_len_seq rfl T.f_len (by decide +kernel) (pa_cons (pv 1) pa_nil)) (pe_glob (v := .int 8) rfl (Classical.choose_spec T.c_MOST_SIGNS) ⟨_, rfl⟩)))))) (pss_one (ps_ret pe_bl)) pss_nil)
      (pss_cons (ps_set (i := 2) sc_is_machine.nd rfl (by first | exact Or.inl rfl | exact Or.inr rfl) (pe_slice sl_str (pe_glob (v := .str "abcdefgh") rfl (Classical.choose_spec T.c_LETTERS) ⟨_, rfl⟩) po_none (po_some (pe_callB call_len_seq rfl T.f_len (by decide +kernel) (pa_cons (pv 1) pa_nil)))))
      (pss_one (ps_ret (pe_callB (cr_all rfl) rfl T.f_all (by decide +kernel) (pa_cons (pe_lc (own := [("word", 3)]) (g := gName 3) (by rfl) sc_is_machine.nd (pi_tup (pv 1)) (blkOk_by (own := [("word", 3)]) (N := N_is_machine) (sc := defScope s_is_machine) (by decide +kernel)) (fun _ _ _ _ _ => pg_name (i := 3) sc_is_machine.nd rfl (by first | exact Or.inl rfl | exact Or.inr rfl)) (fun _ _ _ _ _ => pts_nil) (fun _ _ _ _ _ => (pe_and (pe_fn G_is_text_of (hr.mono (by decide)) rfl T.g_is_text_of pass0 (pa_cons (pv 3) (pa_cons (pv 2) pa_nil))) (pe_one (pe_cmpR op_le (pe_callB call_len_str rfl T.f_len (by decide +kernel) (pa_cons (pv 3) pa_nil)) (pe_glob (v := .int 8) rfl (Classical.choose_spec T.c_LONGEST) ⟨_, rfl⟩) (nomark _)))))) pa_nil)))))))), ?_⟩
    have q0 := fun (e : machB f words = false) => by
      have z := q H (Evl.Ex.refl H)
      rw [e] at z
      exact z
    -- the first test
    refine ⟨_, rfl, _, _, _, _, true, rfl, .ty _, .base (.tup hm), kit_ty (by decide +kernel), true, rfl, iteF ?_⟩
    refine ⟨_, rfl, m, _, rfl, .inr (SqT.of hm), rfl, _, rfl, iteNS rfl ?_⟩
    refine ⟨_, rfl, m, _, ((0 : Nat) : Int), .int f, rfl, rfl, SqT.of hm, atI_nat rfl, f, 1, 4, rfl, _, rfl, ?_⟩
    by_cases hf : 1 ≤ f ∧ f ≤ 4
    · have e1 : (decide (1 ≤ f) && decide (f ≤ 4)) = true := by
        rw [decide_eq_true hf.1, decide_eq_true hf.2]
        rfl
      rw [e1]
      refine iteF ?_
      -- words = thing[1]
      refine ⟨_, rfl, m, _, ((1 : Nat) : Int), .ref ws, rfl, rfl, SqT.of hm, atI_nat rfl, ?_⟩
      refine ⟨_, rfl, _, _, _, _, true, rfl, .ty _, .base (.tup hws), kit_ty (by decide +kernel), true, rfl, iteF ?_⟩
      refine ⟨_, rfl, ws, _, rfl, .inr (SqT.of hws), 1, _, rfl, rfl, _, rfl, ?_⟩
      by_cases h1 : 1 ≤ words.length
      · rw [if_pos (by rw [decide_eq_true_eq, List.length_map]; omega)]
        refine ⟨_, 8, rfl, rfl, _, rfl, ?_⟩
        by_cases h8 : words.length ≤ 8
        · have e8 : decide ((((words.map V.str).length : Nat) : Int) ≤ 8) = true := by rw [decide_eq_true_eq, List.length_map]; omega
          rw [e8]
          refine iteF ?_
          -- signs = LETTERS[:len(words)]
          refine ⟨_, rfl, ws, _, rfl, .inr (SqT.of hws), _, rfl, _, rfl, size_of (by decide +kernel), ?_⟩
          rw [List.length_map, cut_letters h8]
          -- all([..])
          refine ⟨_, rfl, ws, rfl, ⟨_, SqT.of hws⟩, fun D hD => lc_it (walk_tup (xs := words.map V.str)) (fun i H' => Evl.Ex H H' ∧ H' D = some (.lst ((words.take i).map fun w => .bl (allIn w (sg words.length) && decide (w.length ≤ 8))))) ⟨Evl.Ex.new hD, upd_same⟩
            (fun i H' _ p => SqT.of (p.1 _ _ hws)) ?_ ?_⟩
          · rintro i x H1 H2 hi ⟨ex, hDl⟩ ⟨rfl, hx⟩
            have hiw : i < words.length := by simpa using hi
            have hxw : x = .str words[i] := by
              rw [List.getElem?_map, List.getElem?_eq_getElem hiw] at hx
              exact (Option.some.inj hx).symm
            subst hxw
            refine ⟨rfl, ?_⟩
            refine ⟨_, rfl, _, rfl, words[i], sg words.length, rfl, _, rfl, ?_⟩
            have step : ∀ b : Bool, b = (allIn words[i] (sg words.length) && decide (words[i].length ≤ 8)) → ∃ acc, H2 D = some (.lst acc) ∧ acc.length < sizeLine ∧ Evl.Ex H (upd H2 D (.lst (acc ++ [.bl b]))) ∧
                upd H2 D (.lst (acc ++ [.bl b])) D = some (.lst ((words.take (i + 1)).map fun w => .bl (allIn w (sg words.length) && decide (w.length ≤ 8)))) := fun b eb => by
              refine ⟨_, hDl, ?_, Evl.Ex.mut ex hD, ?_⟩
              · rw [List.length_map, List.length_take]
                exact size_lt (by omega)
              · rw [upd_same, List.take_succ, List.getElem?_eq_getElem hiw, List.map_append, eb]
                rfl
            refine ite2 (fun ht => ?_) (fun ht => ?_)
            · refine ⟨_, rfl, _, rfl, size_of (by have := hwl words[i] (List.getElem_mem hiw); omega), _, _, rfl, rfl, step _ ?_⟩
              rw [ht, Bool.true_and]
              simp only [decide_eq_decide]
              omega
            · refine step _ ?_
              have : allIn words[i] (sg words.length) = false := by simpa using ht
              rw [this]
              rfl
          · rintro H1 ⟨ex, hDl⟩
            rw [List.length_map, List.take_of_length_le (Nat.le_refl _)] at hDl
            refine ⟨D, words.map fun w => allIn w (sg words.length) && decide (w.length ≤ 8), rfl, SqL.of (by rw [hDl, List.map_map]; rfl), ?_⟩
            have e : (words.map fun w => allIn w (sg words.length) && decide (w.length ≤ 8)).all id = machB f words := by
              unfold machB
              rw [List.all_map, decide_eq_true hf.1, decide_eq_true hf.2, decide_eq_true h1, decide_eq_true h8]
              rfl
            rw [e]
            exact q H1 ex
        · have e8 : decide ((((words.map V.str).length : Nat) : Int) ≤ 8) = false := by rw [decide_eq_false_iff_not, List.length_map]; omega
          rw [e8]
          refine iteT (q0 ?_)
          unfold machB
          rw [decide_eq_false h8]
          simp
      · rw [if_neg (by rw [decide_eq_true_eq, List.length_map]; omega)]
        refine ⟨_, rfl, iteT (q0 ?_)⟩
        unfold machB
        rw [decide_eq_false h1]
        simp
    · have e1 : (decide (1 ≤ f) && decide (f ≤ 4)) = false := by
        rw [Bool.and_eq_false_iff, decide_eq_false_iff_not, decide_eq_false_iff_not]
        omega
      rw [e1]
      refine iteT (q0 ?_)
      unfold machB
      rw [e1]
      simp
def spSignsOf : Sp := fun vs H Q _ => ∃ (m : Addr) (f : Int) (words : List Str), vs = [.ref m] ∧ MachT H m f words ∧ words.length ≤ 8 ∧ Q (.str (sg words.length)) H
theorem k_signs_of (T : Txt w K mg) : Kp P w K mg base CX0 1 (He.fAd K ("signs_of", none)) P_signs_of spSignsOf := by
  refine Kp.of T.d_signs_of sc_signs_of bn_signs_of (fun vs H Q E h => ?_) (fun f cdv A outer s H vs Q E hr h => ?_)
  · obtain ⟨m, f, words, rfl, _⟩ := h
    rfl
  · obtain ⟨m, f, words, rfl, ⟨ws, hm, hws⟩, h8, q⟩ := h
    refine ⟨_, (pss_one (ps_ret (pe_slice sl_str (pe_glob (v := .str "abcdefgh") rfl (Classical.choose_spec T.c_LETTERS) ⟨_, rfl⟩) po_none (po_some (pe_callB call_len_seq rfl T.f_len (by decide +kernel) (pa_cons (pe_ix ix_tup (pv 0) pe_int (fun _ _ => rfl)) pa_nil)))))), ?_⟩
    refine ⟨_, rfl, m, _, ((1 : Nat) : Int), .ref ws, rfl, rfl, SqT.of hm, atI_nat rfl, ws, _, rfl, .inr (SqT.of hws), _, rfl, _, rfl, size_of (by decide +kernel), ?_⟩
    rw [List.length_map, cut_letters h8]
    exact q
def spIsRow : Sp := fun vs H Q _ => ∃ (m : Addr) (f : Int) (words : List Str) (t : Str), vs = [.ref m, .str t] ∧ MachT H m f words ∧ words.length ≤ 8 ∧ Q (.bl (allIn t (sg words.length))) H
theorem k_is_row (T : Txt w K mg) : Kp P w K mg base CX0 2 (He.fAd K ("is_row", none)) P_is_row spIsRow := by
  have G_signs_of := k_signs_of (P := P) (base := base) T
  have G_is_text_of := k_is_text_of (P := P) (base := base) T
  refine Kp.of T.d_is_row sc_is_row bn_is_row (fun vs H Q E h => ?_) (fun f cdv A outer s H vs Q E hr h => ?_)
  · obtain ⟨m, f, words, t, rfl, _⟩ := h
    rfl
  · obtain ⟨m, f, words, t, rfl, hM, h8, q⟩ := h
    refine ⟨_, (pss_one (ps_ret (pe_fn G_is_text_of (hr.mono (by decide)) rfl T.g_is_text_of pass0 (pa_cons (pv 1) (pa_cons (pe_fn G_signs_of (hr.mono (by decide)) rfl T.g_signs_of pass0 (pa_cons (pv 0) pa_nil)) pa_nil))))), ?_⟩
    exact ⟨_, rfl, _, rfl, m, f, words, rfl, hM, h8, t, _, rfl, q⟩
def spWordOf : Sp := fun vs H Q _ => ∃ (m : Addr) (f : Int) (words : List Str) (c : Nat), vs = [.ref m, .str ⟨#[c]⟩] ∧ MachT H m f words ∧ words.length ≤ 8 ∧ c ∈ (sg words.length).cps.toList ∧ ∀ x ∈ words, Q (.str x) H
theorem k_word_of (T : Txt w K mg) : Kp P w K mg base CX0 1 (He.fAd K ("word_of", none)) P_word_of spWordOf := by
  refine Kp.of T.d_word_of sc_word_of bn_word_of (fun vs H Q E h => ?_) (fun f cdv A outer s H vs Q E hr h => ?_)
  · obtain ⟨m, f, words, c, rfl, _⟩ := h
    rfl
  · obtain ⟨m, f, words, c, rfl, ⟨ws, hm, hws⟩, h8, hc, q⟩ := h
    obtain ⟨i, hi, rfl⟩ := sg_ix h8 hc
    refine ⟨_, (pss_one (ps_ret (pe_ix ix_tup (pe_ix ix_tup (pv 0) pe_int (fun _ _ => rfl)) (pe_bm PySem.F.plainAttrs_str PySem.F.slot_str_index PySem.F.type_str_index mt_sindex (pe_glob (v := .str "abcdefgh") rfl (Classical.choose_spec T.c_LETTERS) ⟨_, rfl⟩) (pa_cons (pv 1) pa_nil)) (fun _ _ => rfl)))), ?_⟩
    refine ⟨_, rfl, m, _, ((1 : Nat) : Int), .ref ws, rfl, rfl, SqT.of hm, atI_nat rfl, rfl, _, rfl, _, _, i, [], rfl, rfl, occ_letters (by omega), ws, _, ((i : Nat) : Int), .str words[i], rfl, rfl, SqT.of hws, atI_nat ?_, q _ (List.getElem_mem hi)⟩
    rw [List.getElem?_map, List.getElem?_eq_getElem hi]
    rfl
end
end Tg

namespace Tg
open PySem PySem.Spec PyProof.Rows L2
section
variable {P : Program} {w : World} {K : PySem.W.Frag} {mg : Str → Option Value} {base : Heap}
/-! ### steps -/
def spRests : Sp := fun vs H Q _ => ∃ (m : Addr) (f : Int) (words : List Str) (r : Str), vs = [.ref m, .str r] ∧ MachT H m f words ∧ r.length ≤ 10000000 ∧ Q (.bl (decide ((r.length : Int) < f))) H
theorem k_rests (T : Txt w K mg) : Kp P w K mg base CX0 1 (He.fAd K ("rests", none)) P_rests spRests := by
  refine Kp.of T.d_rests sc_rests bn_rests (fun vs H Q E h => ?_) (fun f cdv A outer s H vs Q E hr h => ?_)
  · obtain ⟨m, f, words, r, rfl, _⟩ := h
    rfl
  · obtain ⟨m, f, words, r, rfl, ⟨ws, hm, hws⟩, hl, q⟩ := h
    refine ⟨_, (pss_one (ps_ret (pe_cmpR op_lt (pe_callB call_len_str rfl T.f_len (by decide +kernel) (pa_cons (pv 1) pa_nil)) (pe_ix ix_tup (pv 0) pe_int (fun _ _ => rfl)) (nomark _)))), ?_⟩
    exact ⟨_, rfl, r, rfl, size_of (by omega), _, rfl, m, _, ((0 : Nat) : Int), .int f, rfl, rfl, SqT.of hm, atI_nat rfl, _, _, rfl, rfl, q⟩
/-- a row of the machine, of at most so many signs -/
def RowOk (words : List Str) (l : Nat) (r : Str) : Prop := allIn r (sg words.length) = true ∧ r.length ≤ l
def spStep : Sp := fun vs H Q _ => ∃ (m : Addr) (f : Int) (words : List Str) (r : Str) (l : Nat), vs = [.ref m, .str r] ∧ MachT H m f words ∧ MachOk f words ∧ RowOk words l r ∧ l ≤ 5000000 ∧ f ≤ r.length ∧ ∀ x, RowOk words (l + 8) x → Q (.str x) H
theorem k_step (T : Txt w K mg) : Kp P w K mg base CX0 2 (He.fAd K ("step", none)) P_step spStep := by
  have G_rests := k_rests (P := P) (base := base) T
  have G_word_of := k_word_of (P := P) (base := base) T
  refine Kp.of T.d_step sc_step bn_step (fun vs H Q E h => ?_) (fun f cdv A outer s H vs Q E hr h => ?_)
  · obtain ⟨m, f, words, r, l, rfl, _⟩ := h
    rfl
  · obtain ⟨m, f, words, r, l, rfl, hM, ok, ⟨ha, hl⟩, hl5, hf, q⟩ := h
    refine ⟨_, (pss_cons (ps_if (pt_val (pe_fn G_rests (hr.mono (by decide)) rfl T.g_rests pass0 (pa_cons (pv 0) (pa_cons (pv 1) pa_nil)))) (pss_one ps_never) pss_nil)
      (pss_one (ps_ret (pe_op op_add_str (pe_slice sl_str (pv 1) (po_some (pe_ix ix_tup (pv 0) pe_int (fun _ _ => rfl))) po_none) (pe_fn G_word_of (hr.mono (by decide)) rfl T.g_word_of pass0 (pa_cons (pv 0) (pa_cons (pe_ix ix_str (pv 1) pe_int (fun _ _ => rfl)) pa_nil))))))), ?_⟩
    refine ⟨_, rfl, _, rfl, m, f, words, r, rfl, hM, by omega, _, rfl, ?_⟩
    refine ite2 (fun z => absurd (of_decide_eq_true z) (by omega)) (fun _ => ?_)
    obtain ⟨ws, hm, hws⟩ := id hM
    have f1 := ok.f1
    have hc : r.cps.toList[0]? = some (r.cps.toList[0]'(by rw [len_list]; omega)) := List.getElem?_eq_getElem _
    refine ⟨_, rfl, _, rfl, m, _, ((0 : Nat) : Int), .int f, rfl, rfl, SqT.of hm, atI_nat rfl, f, rfl, r, rfl, size_of (by omega), ?_⟩
    refine ⟨_, rfl, _, rfl, r, ((0 : Nat) : Int), _, rfl, rfl, size_of (by omega), atI_nat hc, m, f, words, _, rfl, hM, ok.w8, allIn_at ha (List.getElem_mem _), fun x hx => ?_⟩
    have ox := ok.ws x hx
    have cl := cutS_length r (some f) none
    refine ⟨_, x, rfl, rfl, size_of (by omega), q _ ⟨?_, ?_⟩⟩
    · rw [allIn_app, allIn_cut ha, ox.1]
      rfl
    · rw [len_app]
      omega
def spPath : Sp := fun vs H Q _ => ∃ (m : Addr) (f : Int) (words : List Str) (r : Str) (l n : Nat), vs = [.ref m, .str r, .int (n : Int)] ∧ MachT H m f words ∧ MachOk f words ∧ RowOk words l r ∧ l + 8 * n ≤ 4000000 ∧ n ≤ 1000 ∧
  ∀ H' p (rs : List Str) (y : Str), Evl.Ex H H' → H p = none → H' p = some (.lst ((rs ++ [y]).map V.str)) → rs.length ≤ n → RowOk words (l + 8 * n) y → Q (.ref p) H'
theorem k_path (T : Txt w K mg) : Kp P w K mg base CX0 3 (He.fAd K ("path", none)) P_path spPath := by
  have G_rests := k_rests (P := P) (base := base) T
  have G_step := k_step (P := P) (base := base) T
  refine Kp.of T.d_path sc_path bn_path (fun vs H Q E h => ?_) (fun f cdv A outer s H vs Q E hr h => ?_)
  · obtain ⟨m, f, words, r, l, n, rfl, _⟩ := h
    rfl
  · obtain ⟨m, f, words, r, l, n, rfl, hM, ok, ⟨ha, hl⟩, hln, hn, q⟩ := h
    refine ⟨_, (pss_cons (ps_set (i := 3) sc_path.nd rfl (by first | exact Or.inl rfl | exact Or.inr rfl) (pe_lst (pa_cons (pv 1) pa_nil)))
      (pss_cons (ps_while (L2.passes_of rfl) (PW.pt (pw_and (pt_cmpR op_le (pe_callB call_len_seq rfl T.f_len (by decide +kernel) (pa_cons (pv 3) pa_nil)) (pv 2) (nomark _)) (pw_and1 (pt_not (pt_val (pe_fn G_rests (hr.mono (by decide)) rfl T.g_rests pass0 (pa_cons (pv 0) (pa_cons (pe_ix ix_list (pv 3) (pe_un un_neg pe_int) (fun _ _ => rfl)) pa_nil)))))))) (pss_one (ps_expr (pe_bm PySem.F.plainAttrs_list PySem.F.slot_list_append PySem.F.type_list_append mt_append (pv 3) (pa_cons (pe_fn G_step (hr.mono (by decide)) rfl T.g_step pass0 (pa_cons (pv 0) (pa_cons (pe_ix ix_list (pv 3) (pe_un un_neg pe_int) (fun _ _ => rfl)) pa_nil))) pa_nil)))))
      (pss_one (ps_ret (pv 3))))), ?_⟩
    refine ⟨_, rfl, size_of (by show 1 ≤ 16000000; decide), fun p hp => ?_⟩
    refine ⟨fun k σ H' => ∃ (rs : List Str) (y : Str), k = n + 1 - rs.length ∧ σ = [some (.ref m), some (.str r), some (.int (n : Int)), some (.ref p)] ∧ Evl.Ex H H' ∧ H' p = some (.lst ((rs ++ [y]).map V.str)) ∧ rs.length ≤ n ∧ RowOk words (l + 8 * rs.length) y,
      ⟨_, [], r, rfl, rfl, Evl.Ex.new hp, upd_same, Nat.zero_le _, ha, by simpa using hl⟩, ?_⟩
    rintro k σ H1 ⟨rs, y, rfl, rfl, ex, hpl, hrs, hy⟩
    have hlen : ((rs ++ [y]).map V.str).length = rs.length + 1 := by simp
    have stop := q H1 p rs y ex hp hpl hrs ⟨hy.1, by have := hy.2; omega⟩
    have hy2 := hy.2
    -- len(found) <= many
    refine ⟨_, rfl, p, _, rfl, .inl (SqL.of hpl), _, rfl, _, _, rfl, rfl, _, rfl, ?_⟩
    refine ite2 (fun hle => ?_) (fun hle => ⟨_, rfl, stop⟩)
    have hle2 : rs.length + 1 ≤ n := by
      have := of_decide_eq_true hle
      rw [hlen] at this
      omega
    -- not rests(machine, found[-1])
    refine ⟨_, rfl, _, rfl, _, rfl, p, _, -1, .str y, rfl, rfl, SqL.of hpl, (by rw [List.map_append]; exact atI_last _ _), m, f, words, y, rfl, hM.ex ex, (by omega), _, rfl, ?_⟩
    by_cases hrest : (y.length : Int) < f
    · rw [decide_eq_true hrest]
      exact ⟨_, rfl, stop⟩
    · rw [decide_eq_false hrest]
      refine ⟨fun σ H' => ∃ (x : Str), σ = [some (.ref m), some (.str r), some (.int (n : Int)), some (.ref p)] ∧ Evl.Ex H H' ∧ H' p = some (.lst ((rs ++ [y] ++ [x]).map V.str)) ∧ RowOk words (l + 8 * (rs.length + 1)) x, ?_, ?_⟩
      · rintro σ2 H2 ⟨x, rfl, ex2, hp2, hx⟩
        refine ⟨n + 1 - (rs ++ [y]).length, by simp; omega, rs ++ [y], x, rfl, rfl, ex2, hp2, by simp; omega, ?_⟩
        rw [List.length_append]
        exact hx
      · -- found.append(step(machine, found[-1]))
        refine ⟨_, rfl, .inl ⟨rfl, _, SqL.of hpl⟩, _, rfl, _, rfl, _, rfl, p, _, -1, .str y, rfl, rfl, SqL.of hpl, (by rw [List.map_append]; exact atI_last _ _), m, f, words, y, l + 8 * rs.length, rfl, hM.ex ex, ok, hy, by omega, by omega, fun x hx => ?_⟩
        refine ⟨p, _, _, rfl, rfl, hpl, (by rw [hlen]; exact size_lt (by omega)), x, rfl, Evl.Ex.mut ex hp, ?_, hx⟩
        rw [upd_same, List.map_append (l₁ := rs ++ [y])]
        rfl
def FateOk (xs : List V) : Prop := (∃ (n : Nat) (r : Str), xs = [.str "rests", .int (n : Int), .str r] ∧ n ≤ 1000 ∧ r.length ≤ 5000000 ∧ PyData.strOk r = true) ∨ (∃ a b : Int, xs = [.str "round", .int a, .int b] ∧ (0 ≤ a ∧ a ≤ 1000) ∧ (0 ≤ b ∧ b ≤ 2000)) ∨ xs = [.str "open"]
def spFate : Sp := fun vs H Q _ => ∃ (m : Addr) (f : Int) (words : List Str) (r : Str) (l n : Nat), vs = [.ref m, .str r, .int (n : Int)] ∧ MachT H m f words ∧ MachOk f words ∧ RowOk words l r ∧ l + 8 * n ≤ 4000000 ∧ n ≤ 1000 ∧
  ∀ H' p xs, Evl.Ex H H' → H' p = some (.tup xs) → FateOk xs → Q (.ref p) H'
theorem k_fate (T : Txt w K mg) : Kp P w K mg base CX0 3 (He.fAd K ("fate", none)) P_fate spFate := by
  have G_rests := k_rests (P := P) (base := base) T
  have G_step := k_step (P := P) (base := base) T
  refine Kp.of T.d_fate sc_fate bn_fate (fun vs H Q E h => ?_) (fun f cdv A outer s H vs Q E hr h => ?_)
  · obtain ⟨m, f, words, r, l, n, rfl, _⟩ := h
    rfl
  · obtain ⟨m, f, words, r, l, n, rfl, hM, ok, ⟨ha, hl⟩, hln, hn, q⟩ := h
    have hu := hu_of hr
    refine ⟨_, (pss_cons (ps_set (i := 3) sc_fate.nd rfl (by first | exact Or.inl rfl | exact Or.inr rfl) (pe_disp (pps_cons (pv 1) pe_int pps_nil) (by rfl) (by rfl) (fun z => by cases z) (by decide)))
      (pss_cons (ps_set (i := 4) sc_fate.nd rfl (by first | exact Or.inl rfl | exact Or.inr rfl) (pv 1))
      (pss_cons (ps_for (L2.passes_of rfl) rfl (pi_range1 rfl T.f_range (pa_cons (pv 2) pa_nil)) (pg_name (i := 5) sc_fate.nd rfl (by first | exact Or.inl rfl | exact Or.inr rfl)) (pss_cons (ps_if (pt_val (pe_fn G_rests (hr.mono (by decide)) rfl T.g_rests pass0 (pa_cons (pv 0) (pa_cons (pv 4) pa_nil)))) (pss_one (ps_ret (pe_tup (pa_cons pe_str (pa_cons (pv 5) (pa_cons (pv 4) pa_nil)))))) pss_nil)
      (pss_cons (ps_set (i := 4) sc_fate.nd rfl (by first | exact Or.inl rfl | exact Or.inr rfl) (pe_fn G_step (hr.mono (by decide)) rfl T.g_step pass0 (pa_cons (pv 0) (pa_cons (pv 4) pa_nil))))
      (pss_cons (ps_if (pt_cmp (pc_din hu (pv 4) (pv 3))) (pss_one (ps_ret (pe_tup (pa_cons pe_str (pa_cons (pe_dget hu (pv 3) (pv 4) (fun _ _ => rfl)) (pa_cons (pe_op op_sub (pe_op op_add (pv 5) pe_int) (pe_dget hu (pv 3) (pv 4) (fun _ _ => rfl))) pa_nil)))))) pss_nil)
      (pss_one (ps_dput hu (pv 3) (pv 4) (pe_op op_add (pv 5) pe_int) rfl))))))
      (pss_cons (ps_if (pt_val (pe_fn G_rests (hr.mono (by decide)) rfl T.g_rests pass0 (pa_cons (pv 0) (pa_cons (pv 4) pa_nil)))) (pss_one (ps_ret (pe_tup (pa_cons pe_str (pa_cons (pv 2) (pa_cons (pv 4) pa_nil)))))) pss_nil)
      (pss_one (ps_ret (pe_tup (pa_cons pe_str pa_nil)))))))), ?_⟩
    -- seen = {row: 0}
    refine fun d hd => ⟨_, rfl, upd_same, [(Sum.inr r, .int 0)], rfl, (by show 1 ≤ 15; decide), ?_⟩
    rw [upd_upd]
    -- now = row
    refine ⟨_, rfl, ?_⟩
    refine ⟨_, rfl, (n : Int), rfl, by omega, by omega, ?_⟩
    have en : ((n : Int)).toNat = n := by simp
    rw [en]
    refine for_it walk_range (fun i σ H' => ∃ (y : Str) (v : Option V) (kvs : List (Key × V)), σ = [some (.ref m), some (.str r), some (.int (n : Int)), some (.ref d), some (.str y), v] ∧ Evl.Ex H H' ∧ H' d = some (.dK kvs) ∧ kvs.length ≤ i + 1 ∧
        (∀ p ∈ kvs, ∃ k : Nat, p.2 = .int (k : Int) ∧ k ≤ i) ∧ RowOk words (l + 8 * i) y) ⟨r, none, _, rfl, Evl.Ex.new hd, upd_same, (by simp [mergeK, putK]), fun p hp => ?_, ha, by simpa using hl⟩ (fun _ _ _ _ _ => trivial) ?_ ?_
    · have e : p = (Sum.inr r, V.int 0) := by simpa [mergeK, putK] using hp
      rw [e]
      exact ⟨0, rfl, by omega⟩
    · rintro i x σ H1 H2 hi ⟨y, v, kvs, rfl, ex, hdk, hkl, hkv, hy⟩ ⟨rfl, rfl⟩
      have hy2 := hy.2
      have e0 : (0 : Int) + (i : Int) = (i : Int) := by omega
      show gName 5 (V.int (0 + (i : Int))) _ _ _
      rw [e0]
      -- rests(machine, now)
      refine ⟨_, rfl, _, rfl, m, f, words, y, rfl, hM.ex ex, by omega, _, rfl, ?_⟩
      refine ite2 (fun hrest => ?_) (fun hrest => ?_)
      · refine ⟨_, rfl, _, rfl, size_of (by show 3 ≤ 16000000; decide), fun p hp => q _ p _ (ex.trans (Evl.Ex.new hp)) upd_same (.inl ⟨i, y, rfl, by omega, by omega, strOk_sg hy.1⟩)⟩
      · have hf2 : ¬ (y.length : Int) < f := fun z => hrest (decide_eq_true z)
        -- now = step(machine, now)
        refine ⟨_, rfl, _, rfl, m, f, words, y, l + 8 * i, rfl, hM.ex ex, ok, hy, by omega, by omega, fun x hx => ?_⟩
        -- if now in seen
        refine ⟨_, rfl, _, rfl, d, _, rfl, DGet.k (k := Sum.inr x) hdk, _, rfl, ?_⟩
        cases ev : valV kvs (Sum.inr x) with
        | some v0 =>
          obtain ⟨k, ek, hk⟩ := hkv _ (mem_valV ev)
          have ek : v0 = .int (k : Int) := ek
          subst ek
          refine ⟨_, rfl, _, rfl, d, _, rfl, (by rw [← ev]; exact DGet.k (k := Sum.inr x) hdk), ?_⟩
          refine ⟨_, rfl, _, _, rfl, rfl, _, rfl, _, rfl, d, _, rfl, (by rw [← ev]; exact DGet.k (k := Sum.inr x) hdk), _, _, rfl, rfl, size_of (by show 3 ≤ 16000000; decide), fun p hp => q _ p _ (ex.trans (Evl.Ex.new hp)) upd_same (.inr (.inl ⟨_, _, rfl, by omega, by omega⟩))⟩
        | none =>
          -- seen[now] = done + 1
          refine ⟨_, rfl, _, _, rfl, rfl, _, rfl, _, rfl, d, _, rfl, DPut.k (k := Sum.inr x) hdk (size_lt (by omega)), x, _, _, rfl, Evl.Ex.mut ex hd, upd_same, ?_, fun p hp => ?_, hx.1, by have := hx.2; omega⟩
          · exact Nat.le_trans len_putK (by omega)
          · rcases mem_putK hp with ⟨_, e2⟩ | ⟨h1, _⟩
            · exact ⟨i + 1, by rw [e2]; rfl, by omega⟩
            · obtain ⟨k, e1, e2⟩ := hkv p h1
              exact ⟨k, e1, by omega⟩
    · rintro σ H1 ⟨y, v, kvs, rfl, ex, hdk, hkl, hkv, hy⟩
      have hy2 := hy.2
      refine ⟨_, rfl, _, rfl, m, f, words, y, rfl, hM.ex ex, by omega, _, rfl, ?_⟩
      refine ite2 (fun hrest => ?_) (fun hrest => ?_)
      · refine ⟨_, rfl, _, rfl, size_of (by show 3 ≤ 16000000; decide), fun p hp => q _ p _ (ex.trans (Evl.Ex.new hp)) upd_same (.inl ⟨n, y, rfl, by omega, by omega, strOk_sg hy.1⟩)⟩
      · exact ⟨size_of (by show 1 ≤ 16000000; decide), fun p hp => q _ p _ (ex.trans (Evl.Ex.new hp)) upd_same (.inr (.inr rfl))⟩
end
end Tg

namespace Tg
open PySem PySem.Spec PyProof.Rows L2
/-! ### rows in which some signs may be any -/
def wildC (c : Nat) : Prop := (97 ≤ c ∧ c ≤ 104) ∨ c = 63
/-- of signs and at most k marks, of at most l signs -/
structure Wild (k l : Nat) (r : Str) : Prop where
  cs : ∀ c ∈ r.cps.toList, wildC c
  n : r.cps.toList.count 63 ≤ k
  l : r.length ≤ l
theorem Wild.ascii {k l : Nat} {r : Str} (h : Wild k l r) : r.cps.all (· < 128) = true := by
  rw [← Array.all_toList, List.all_eq_true]
  intro c hc
  have := h.cs c hc
  unfold wildC at this
  exact decide_eq_true (by omega)
theorem Wild.cut {k l : Nat} {r : Str} (h : Wild k l r) (lo hi : Option Int) : Wild k l (cutS r lo hi) :=
  ⟨fun c hc => h.cs c (cutS_mem hc), Nat.le_trans ((cutS_sub r lo hi).count_le 63) h.n, Nat.le_trans (cutS_length r lo hi) h.l⟩
theorem Wild.of_row {n l : Nat} {r : Str} (h : allIn r (sg n) = true) (hl : r.length ≤ l) : Wild 0 l r := by
  have m : ∀ c ∈ r.cps.toList, 97 ≤ c ∧ c ≤ 104 := fun c hc => sg_mem (allIn_at h hc)
  refine ⟨fun c hc => .inl (m c hc), ?_, hl⟩
  rw [List.count_eq_zero_of_not_mem]
  · exact Nat.le_refl _
  · intro hc
    have := m 63 hc
    omega
section
variable {P : Program} {w : World} {K : PySem.W.Frag} {mg : Str → Option Value} {base : Heap}
def spEndsSo : Sp := fun vs H Q _ => ∃ (r x : Str) (k l k2 l2 : Nat), vs = [.str r, .str x] ∧ Wild k l r ∧ Wild k2 l2 x ∧ l ≤ 5000000 ∧ l2 ≤ 5000000 ∧ ∀ b H', Evl.Ex H H' → Q (.bl b) H'
theorem k_ends_so (T : Txt w K mg) : Kp P w K mg base CX0 1 (He.fAd K ("ends_so", none)) P_ends_so spEndsSo := by
  refine Kp.of T.d_ends_so sc_ends_so bn_ends_so (fun vs H Q E h => ?_) (fun f cdv A outer s H vs Q E hr h => ?_)
  · obtain ⟨r, x, k, l, k2, l2, rfl, _⟩ := h
    rfl
  · obtain ⟨r, x, k, l, k2, l2, rfl, hr1, hx, hl, hl2, q⟩ := h
    have a1 := hr1.l
    have a2 := hx.l
    refine ⟨_, (pss_cons (ps_if (pt_cmpR op_gt (pe_callB call_len_str rfl T.f_len (by decide +kernel) (pa_cons (pv 1) pa_nil)) (pe_callB call_len_str rfl T.f_len (by decide +kernel) (pa_cons (pv 0) pa_nil)) (nomark _)) (pss_one (ps_ret pe_bl)) pss_nil)
      (pss_cons (ps_for (L2.passes_of rfl) rfl (pi_zipS rfl T.f_zip (pa_cons (pe_slice sl_str (pv 0) (po_some (pe_op op_sub (pe_callB call_len_str rfl T.f_len (by decide +kernel) (pa_cons (pv 0) pa_nil)) (pe_callB call_len_str rfl T.f_len (by decide +kernel) (pa_cons (pv 1) pa_nil)))) po_none) (pa_cons (pv 1) pa_nil))) (pg_tup rfl (pgs_cons (pg_name (i := 2) sc_ends_so.nd rfl (by first | exact Or.inl rfl | exact Or.inr rfl)) (pgs_cons (pg_name (i := 3) sc_ends_so.nd rfl (by first | exact Or.inl rfl | exact Or.inr rfl)) pgs_nil))) (pss_one (ps_if (PW.pt (pw_and (pt_cmpR op_ne (pv 2) (pe_glob (v := .str "?") rfl (Classical.choose_spec T.c_ANY) ⟨_, rfl⟩) (nomark _)) (pw_and1 (pt_cmpR op_ne (pv 2) (pv 3) (nomark _))))) (pss_one (ps_ret pe_bl)) pss_nil)))
      (pss_one (ps_ret pe_bl)))), ?_⟩
    refine ⟨_, rfl, x, rfl, size_of (by omega), _, rfl, r, rfl, size_of (by omega), _, _, rfl, rfl, _, rfl, ?_⟩
    refine ite2 (fun _ => q _ _ (Evl.Ex.refl H)) (fun _ => ?_)
    refine ⟨_, rfl, _, rfl, r, rfl, size_of (by omega), _, rfl, x, rfl, size_of (by omega), _, _, rfl, rfl, _, rfl, r, rfl, size_of (by omega), ?_⟩
    refine ⟨_, rfl, _, _, rfl, (hr1.cut _ _).ascii, hx.ascii, ?_⟩
    refine ⟨fun i m σ H' => m + i = min (cutS r (some ((r.length : Int) - (x.length : Int))) none).cps.size x.cps.size ∧ (∃ v1 v2, σ = [some (.str r), some (.str x), v1, v2]) ∧ Evl.Ex H H', ⟨min (cutS r (some ((r.length : Int) - (x.length : Int))) none).cps.size x.cps.size, by omega, ⟨_, _, rfl⟩, Evl.Ex.refl H⟩, ?_⟩
    rintro i m σ H1 ⟨hm, ⟨v1, v2, rfl⟩, ex⟩
    by_cases h0 : m = 0
    · subst h0
      exact .inl ⟨(by show i = min _ _; omega), q _ _ ex⟩
    · refine .inr ⟨by show i < _; omega, fun σ H' => (∃ v1 v2, σ = [some (.str r), some (.str x), v1, v2]) ∧ Evl.Ex H H', ?_, ?_⟩
      · rintro σ2 H2 ⟨hs, ex2⟩
        exact ⟨m - 1, by omega, by omega, hs, ex2⟩
      · rintro y H2 ⟨p, c, d, rfl, hp, rfl, hc, hd⟩
        have ex2 := ex.trans (Evl.Ex.new (o := .tup [.str ⟨#[c]⟩, .str ⟨#[d]⟩]) hp)
        refine ⟨p, _, rfl, SqT.of upd_same, rfl, _, _, rfl, _, _, rfl, rfl, ?_⟩
        refine ⟨_, rfl, rfl, _, rfl, ?_⟩
        refine ite2 (fun _ => ?_) (fun _ => ⟨⟨_, _, rfl⟩, ex2⟩)
        refine ⟨_, rfl, _, rfl, rfl, _, rfl, ?_⟩
        exact ite2 (fun _ => q _ _ ex2) (fun _ => ⟨⟨_, _, rfl⟩, ex2⟩)
def spLedFrom : Sp := fun vs H Q _ => ∃ (m : Addr) (f : Int) (words : List Str) (r : Str) (k l : Nat), vs = [.ref m, .str r] ∧ MachT H m f words ∧ MachOk f words ∧ Wild k l r ∧ l ≤ 4000000 ∧
  ∀ H' p (rs : List Str), Evl.Ex H H' → H p = none → H' p = some (.lst (rs.map V.str)) → rs.length ≤ 8 → (∀ x ∈ rs, Wild (k + 3) (l + 4) x) → Q (.ref p) H'
theorem k_led_from (T : Txt w K mg) : Kp P w K mg base CX0 2 (He.fAd K ("led_from", none)) P_led_from spLedFrom := by
  have G_signs_of := k_signs_of (P := P) (base := base) T
  have G_word_of := k_word_of (P := P) (base := base) T
  have G_ends_so := k_ends_so (P := P) (base := base) T
  refine Kp.of T.d_led_from sc_led_from bn_led_from (fun vs H Q E h => ?_) (fun f cdv A outer s H vs Q E hr h => ?_)
  · obtain ⟨m, f, words, r, k, l, rfl, _⟩ := h
    rfl
  · obtain ⟨m, f, words, r, k, l, rfl, hM, ok, hW, hl, q⟩ := h
    have a1 := hW.l
    refine ⟨_, (pss_cons (ps_set (i := 2) sc_led_from.nd rfl (by first | exact Or.inl rfl | exact Or.inr rfl) (pe_lst pa_nil))
      (pss_cons (ps_for (L2.passes_of rfl) rfl (pi_str (pe_fn G_signs_of (hr.mono (by decide)) rfl T.g_signs_of pass0 (pa_cons (pv 0) pa_nil))) (pg_name (i := 3) sc_led_from.nd rfl (by first | exact Or.inl rfl | exact Or.inr rfl)) (pss_cons (ps_set (i := 4) sc_led_from.nd rfl (by first | exact Or.inl rfl | exact Or.inr rfl) (pe_fn G_word_of (hr.mono (by decide)) rfl T.g_word_of pass0 (pa_cons (pv 0) (pa_cons (pv 3) pa_nil))))
      (pss_one (ps_if (pt_val (pe_fn G_ends_so (hr.mono (by decide)) rfl T.g_ends_so pass0 (pa_cons (pv 1) (pa_cons (pv 4) pa_nil)))) (pss_one (ps_expr (pe_bm PySem.F.plainAttrs_list PySem.F.slot_list_append PySem.F.type_list_append mt_append (pv 2) (pa_cons (pe_op op_add_str (pe_op op_add_str (pv 3) (pe_op op_mulS (pe_glob (v := .str "?") rfl (Classical.choose_spec T.c_ANY) ⟨_, rfl⟩) (pe_op op_sub (pe_ix ix_tup (pv 0) pe_int (fun _ _ => rfl)) pe_int))) (pe_slice sl_str (pv 1) po_none (po_some (pe_op op_sub (pe_callB call_len_str rfl T.f_len (by decide +kernel) (pa_cons (pv 1) pa_nil)) (pe_callB call_len_str rfl T.f_len (by decide +kernel) (pa_cons (pv 4) pa_nil)))))) pa_nil)))) pss_nil))))
      (pss_one (ps_ret (pv 2))))), ?_⟩
    refine ⟨size_of (by show 0 ≤ 16000000; decide), fun p hp => ?_⟩
    refine ⟨_, rfl, m, f, words, rfl, hM.ex (Evl.Ex.new hp), ok.w8, _, rfl, ?_⟩
    refine for_it walk_str (fun i σ H' => ∃ (v3 v4 : Option V) (rs : List Str), σ = [some (.ref m), some (.str r), some (.ref p), v3, v4] ∧ Evl.Ex H H' ∧ H' p = some (.lst (rs.map V.str)) ∧ rs.length ≤ i ∧ (∀ x ∈ rs, Wild (k + 3) (l + 4) x))
      ⟨none, none, [], rfl, Evl.Ex.new hp, upd_same, Nat.le_refl _, fun x hx => by simp at hx⟩ (fun _ _ _ _ _ => trivial) ?_ ?_
    · rintro i y σ H1 H2 hi ⟨v3, v4, rs, rfl, ex, hpl, hrs, hws⟩ ⟨rfl, c, hc, rfl⟩
      have hcl : c ∈ (sg words.length).cps.toList := List.mem_of_getElem? (by simpa using hc)
      have hi8 : i < 8 := by
        have e : (sg words.length).cps.size = (sg words.length).length := rfl
        have := sg_len words.length
        omega
      refine ⟨_, rfl, _, rfl, m, f, words, c, rfl, hM.ex ex, ok.w8, hcl, fun x hx => ?_⟩
      obtain ⟨xa, xl⟩ := ok.ws x hx
      have hx0 := Wild.of_row xa xl
      refine ⟨_, rfl, _, rfl, r, x, k, l, 0, 8, rfl, hW, hx0, by omega, by omega, fun b H3 ex3 => ⟨b, rfl, ?_⟩⟩
      have ex13 := ex.trans ex3
      refine ite2 (fun _ => ?_) (fun _ => ⟨_, _, rs, rfl, ex13, ex3 _ _ hpl, by omega, hws⟩)
      obtain ⟨ws, hm, hws2⟩ := hM.ex ex13
      obtain ⟨n, rfl⟩ : ∃ n : Nat, f = ((n + 1 : Nat) : Int) := ⟨(f - 1).toNat, by have := ok.f1; omega⟩
      have hn4 := ok.f4
      have e1 : (((n + 1 : Nat) : Int) - 1) = (n : Int) := by omega
      refine ⟨_, rfl, .inl ⟨rfl, _, SqL.of (ex3 _ _ hpl)⟩, _, rfl, _, rfl, m, _, ((0 : Nat) : Int), _, rfl, rfl, SqT.of hm, atI_nat rfl, _, _, rfl, rfl, 63, n, by decide +kernel, by rw [← e1], by omega, ?_⟩
      refine ⟨_, _, rfl, rfl, size_of (by show 1 + _ ≤ _; simp [Str.length]; omega), ?_⟩
      refine ⟨_, rfl, _, rfl, r, rfl, size_of (by omega), _, rfl, x, rfl, size_of (by omega), _, _, rfl, rfl, _, rfl, r, rfl, size_of (by omega), ?_⟩
      have cl := cutS_length r none (some ((r.length : Int) - (x.length : Int)))
      have hlen1 : ((⟨#[c]⟩ : Str) ++ (⟨(List.replicate n 63).toArray⟩ : Str)).length = 1 + n := by
        rw [len_app]
        simp [Str.length]
      refine ⟨_, _, rfl, rfl, size_of (by rw [hlen1]; omega), p, _, _, rfl, rfl, ex3 _ _ hpl, (by rw [List.length_map]; exact size_lt (by omega)), _, _, rs ++ [((⟨#[c]⟩ : Str) ++ (⟨(List.replicate n 63).toArray⟩ : Str) ++ cutS r none (some ((r.length : Int) - (x.length : Int))))], rfl, Evl.Ex.mut ex13 hp, ?_, by simp; omega, fun z hz => ?_⟩
      · rw [upd_same, List.map_append]
        rfl
      · rcases List.mem_append.mp hz with h1 | h1
        · exact hws z h1
        · rw [List.mem_singleton.mp h1]
          have hcut := hW.cut none (some ((r.length : Int) - (x.length : Int)))
          have hc2 := sg_mem hcl
          refine ⟨fun d hd => ?_, ?_, ?_⟩
          · rw [app_list, app_list] at hd
            rcases List.mem_append.mp hd with h2 | h2
            · rcases List.mem_append.mp h2 with h3 | h3
              · have : d = c := by simpa using h3
                rw [this]
                exact .inl hc2
              · have : d = 63 := by
                  have h4 : d ∈ List.replicate n 63 := by simpa using h3
                  exact List.eq_of_mem_replicate h4
                exact .inr this
            · exact hcut.cs d h2
          · rw [app_list, app_list, List.count_append, List.count_append]
            have h3 : ((⟨#[c]⟩ : Str).cps.toList).count 63 = 0 := by
              apply List.count_eq_zero_of_not_mem
              simp
              omega
            have h4 : ((⟨(List.replicate n 63).toArray⟩ : Str).cps.toList).count 63 ≤ n := by
              have := List.count_le_length (a := 63) (l := (⟨(List.replicate n 63).toArray⟩ : Str).cps.toList)
              simpa using this
            have h5 := hcut.n
            omega
          · rw [len_app, hlen1]
            omega
    · rintro σ H1 ⟨v3, v4, rs, rfl, ex, hpl, hrs, hws⟩
      have e : (sg words.length).cps.size = (sg words.length).length := rfl
      have := sg_len words.length
      exact ⟨_, rfl, q H1 p rs ex hp hpl (by omega) hws⟩
/-- at most so many rows, each of at most twelve marks -/
def spHowMany : Sp := fun vs H Q _ => ∃ (m p : Addr) (f : Int) (words : List Str) (rs : List Str) (l : Nat), vs = [.ref m, .ref p] ∧ MachT H m f words ∧ words.length ≤ 8 ∧ H p = some (.lst (rs.map V.str)) ∧ rs.length ≤ 5000 ∧ (∀ x ∈ rs, Wild 12 l x) ∧
  ∀ n : Nat, n ≤ 5000 * 8 ^ 12 → Q (.int (n : Int)) H
theorem k_how_many (T : Txt w K mg) : Kp P w K mg base CX0 1 (He.fAd K ("how_many", none)) P_how_many spHowMany := by
  refine Kp.of T.d_how_many sc_how_many bn_how_many (fun vs H Q E h => ?_) (fun f cdv A outer s H vs Q E hr h => ?_)
  · obtain ⟨m, p, f, words, rs, l, rfl, _⟩ := h
    rfl
  · obtain ⟨m, p, f, words, rs, l, rfl, ⟨ws, hm, hws⟩, h8, hp, hrs, hwl, q⟩ := h
    refine ⟨_, (pss_cons (ps_set (i := 2) sc_how_many.nd rfl (by first | exact Or.inl rfl | exact Or.inr rfl) pe_int)
      (pss_cons (ps_for (L2.passes_of rfl) rfl (pi_list (pv 1)) (pg_name (i := 3) sc_how_many.nd rfl (by first | exact Or.inl rfl | exact Or.inr rfl)) (pss_cons (ps_set (i := 4) sc_how_many.nd rfl (by first | exact Or.inl rfl | exact Or.inr rfl) pe_int)
      (pss_cons (ps_for (L2.passes_of rfl) rfl (pi_str (pv 3)) (pg_name (i := 5) sc_how_many.nd rfl (by first | exact Or.inl rfl | exact Or.inr rfl)) (pss_one (ps_if (pt_cmpR op_eq (pv 5) (pe_glob (v := .str "?") rfl (Classical.choose_spec T.c_ANY) ⟨_, rfl⟩) (nomark _)) (pss_one (ps_set (i := 4) sc_how_many.nd rfl (by first | exact Or.inl rfl | exact Or.inr rfl) (pe_op op_mul (pv 4) (pe_callB call_len_seq rfl T.f_len (by decide +kernel) (pa_cons (pe_ix ix_tup (pv 0) pe_int (fun _ _ => rfl)) pa_nil))))) pss_nil)))
      (pss_one (ps_set (i := 2) sc_how_many.nd rfl (by first | exact Or.inl rfl | exact Or.inr rfl) (pe_op op_add (pv 2) (pv 4)))))))
      (pss_one (ps_ret (pv 2))))), ?_⟩
    refine ⟨_, rfl, p, rfl, ⟨_, SqL.of hp⟩, ?_⟩
    refine for_it (walk_list (xs := rs.map V.str)) (fun i σ H' => H' = H ∧ ∃ (t : Nat) (v3 v4 v5 : Option V), σ = [some (.ref m), some (.ref p), some (.int (t : Int)), v3, v4, v5] ∧ t ≤ i * 8 ^ 12) ⟨rfl, 0, none, none, none, rfl, Nat.zero_le _⟩ (fun i σ H' _ z => by rw [z.1]; exact SqL.of hp) ?_ ?_
    · rintro i y σ H1 H2 hi ⟨rfl, t, v3, v4, v5, rfl, ht⟩ ⟨rfl, hy⟩
      have hir : i < rs.length := by simpa using hi
      have hyr : y = .str rs[i] := by
        rw [List.getElem?_map, List.getElem?_eq_getElem hir] at hy
        exact (Option.some.inj hy).symm
      subst hyr
      have hW := hwl rs[i] (List.getElem_mem hir)
      refine ⟨_, rfl, rs[i], rfl, for_it walk_str (fun j σ H' => H' = H2 ∧ ∃ (n : Nat) (v5 : Option V), σ = [some (.ref m), some (.ref p), some (.int (t : Int)), some (.str rs[i]), some (.int (n : Int)), v5] ∧ n ≤ 8 ^ ((rs[i].cps.toList.take j).count 63)) ⟨rfl, 1, v5, rfl, by simp⟩ (fun _ _ _ _ _ => trivial) ?_ ?_⟩
      · rintro j y σ H1 H3 hj ⟨rfl, n, v5, rfl, hn⟩ ⟨rfl, c, hc, rfl⟩
        have hcl : rs[i].cps.toList[j]? = some c := by simpa using hc
        have et : rs[i].cps.toList.take (j + 1) = rs[i].cps.toList.take j ++ [c] := by rw [List.take_succ, hcl]; rfl
        refine ⟨_, rfl, rfl, _, rfl, ?_⟩
        refine ite2 (fun h63 => ?_) (fun h63 => ?_)
        · have c63 : c = 63 := by
            have h1 := of_decide_eq_true h63
            have h2 : (⟨#[c]⟩ : Str) = "?" := V.str.inj h1
            have h3 : ("?" : Str) = ⟨#[63]⟩ := by decide +kernel
            rw [h3] at h2
            have h4 : (#[c] : Array Nat) = #[63] := congrArg Str.cps h2
            simpa using h4
          subst c63
          refine ⟨_, rfl, _, rfl, m, _, ((1 : Nat) : Int), .ref ws, rfl, rfl, SqT.of hm, atI_nat rfl, ws, _, rfl, .inr (SqT.of hws), _, _, rfl, rfl, .inr ⟨by rw [List.length_map]; omega, by rw [List.length_map]; omega⟩, rfl, n * words.length, _, by rw [List.length_map]; push_cast; rfl, ?_⟩
          rw [et, List.count_append]
          simp only [List.count_singleton_self]
          rw [Nat.pow_succ]
          exact Nat.mul_le_mul hn h8
        · refine ⟨rfl, n, _, rfl, Nat.le_trans hn (Nat.pow_le_pow_right (by decide) ?_)⟩
          rw [et, List.count_append]
          omega
      · rintro σ H1 ⟨rfl, n, v5, rfl, hn⟩
        refine ⟨_, rfl, _, rfl, _, _, rfl, rfl, rfl, t + n, _, _, _, by push_cast; rfl, ?_⟩
        have h1 : n ≤ 8 ^ 12 := by
          refine Nat.le_trans hn (Nat.pow_le_pow_right (by decide) (Nat.le_trans ?_ hW.n))
          exact (List.take_sublist _ _).count_le 63
        rw [Nat.succ_mul]
        omega
    · rintro σ H1 ⟨rfl, t, v3, v4, v5, rfl, ht⟩
      refine ⟨_, rfl, q t (Nat.le_trans ht (Nat.mul_le_mul_right _ ?_))⟩
      rw [List.length_map]
      exact hrs
def spManyBefore : Sp := fun vs H Q _ => ∃ (m : Addr) (f : Int) (words : List Str) (r : Str) (l n : Nat), vs = [.ref m, .str r, .int (n : Int)] ∧ MachT H m f words ∧ MachOk f words ∧ allIn r (sg words.length) = true ∧ r.length ≤ l ∧ l ≤ 3000000 ∧ n ≤ 4 ∧
  ∀ H' (k : Nat), Evl.Ex H H' → k ≤ 5000 * 8 ^ 12 → Q (.int (k : Int)) H'
theorem k_many_before (T : Txt w K mg) : Kp P w K mg base CX0 3 (He.fAd K ("many_before", none)) P_many_before spManyBefore := by
  have G_led_from := k_led_from (P := P) (base := base) T
  have G_how_many := k_how_many (P := P) (base := base) T
  refine Kp.of T.d_many_before sc_many_before bn_many_before (fun vs H Q E h => ?_) (fun f cdv A outer s H vs Q E hr h => ?_)
  · obtain ⟨m, f, words, r, l, n, rfl, _⟩ := h
    rfl
  · obtain ⟨m, f, words, r, l, n, rfl, hM, ok, ha, hrl, hl, hn, q⟩ := h
    have hW := Wild.of_row ha hrl
    refine ⟨_, (pss_cons (ps_set (i := 3) sc_many_before.nd rfl (by first | exact Or.inl rfl | exact Or.inr rfl) (pe_lst (pa_cons (pv 1) pa_nil)))
      (pss_cons (ps_for (L2.passes_of rfl) rfl (pi_range1 rfl T.f_range (pa_cons (pv 2) pa_nil)) (pg_name (i := 4) sc_many_before.nd rfl (by first | exact Or.inl rfl | exact Or.inr rfl)) (pss_cons (ps_set (i := 5) sc_many_before.nd rfl (by first | exact Or.inl rfl | exact Or.inr rfl) (pe_lst pa_nil))
      (pss_cons (ps_for (L2.passes_of rfl) rfl (pi_list (pv 3)) (pg_name (i := 6) sc_many_before.nd rfl (by first | exact Or.inl rfl | exact Or.inr rfl)) (pss_one (ps_expr (pe_bm PySem.F.plainAttrs_list PySem.F.slot_list_extend PySem.F.type_list_extend mt_extend (pv 5) (pa_cons (pe_fn G_led_from (hr.mono (by decide)) rfl T.g_led_from pass0 (pa_cons (pv 0) (pa_cons (pv 6) pa_nil))) pa_nil)))))
      (pss_one (ps_set (i := 3) sc_many_before.nd rfl (by first | exact Or.inl rfl | exact Or.inr rfl) (pv 5))))))
      (pss_one (ps_ret (pe_fn G_how_many (hr.mono (by decide)) rfl T.g_how_many pass0 (pa_cons (pv 0) (pa_cons (pv 3) pa_nil))))))), ?_⟩
    refine ⟨_, rfl, size_of (by show 1 ≤ 16000000; decide), fun p hp => ?_⟩
    refine ⟨_, rfl, (n : Int), rfl, by omega, by omega, ?_⟩
    have en : ((n : Int)).toNat = n := by simp
    rw [en]
    refine for_it walk_range (fun i σ H' => ∃ (p : Addr) (v4 v5 v6 : Option V) (rs : List Str), σ = [some (.ref m), some (.str r), some (.int (n : Int)), some (.ref p), v4, v5, v6] ∧ Evl.Ex H H' ∧ H' p = some (.lst (rs.map V.str)) ∧ rs.length ≤ 8 ^ i ∧ (∀ x ∈ rs, Wild (3 * i) (l + 4 * i) x))
      ⟨p, none, none, none, [r], rfl, Evl.Ex.new hp, upd_same, by simp, fun x hx => by rw [List.mem_singleton.mp hx]; exact hW⟩ (fun _ _ _ _ _ => trivial) ?_ ?_
    · rintro i y σ H1 H2 hi ⟨p, v4, v5, v6, rs, rfl, ex, hpl, hrs, hws⟩ ⟨rfl, rfl⟩
      have h8i : 8 ^ i ≤ 512 := Nat.pow_le_pow_right (n := 8) (by decide) (show i ≤ 3 by omega)
      -- further = []
      refine ⟨size_of (by show 0 ≤ 16000000; decide), fun g hg => ?_⟩
      have hgp : p ≠ g := ne_of_none hpl hg
      refine ⟨_, rfl, p, rfl, ⟨_, SqL.of (by rw [upd_ne hgp]; exact hpl)⟩, ?_⟩
      refine for_it (walk_list (xs := rs.map V.str)) (fun j σ H' => ∃ (v6 : Option V) (zs : List Str), σ = [some (.ref m), some (.str r), some (.int (n : Int)), some (.ref p), some (.int (0 + (i : Int))), some (.ref g), v6] ∧ Evl.Ex H2 H' ∧ H' g = some (.lst (zs.map V.str)) ∧ zs.length ≤ 8 * j ∧ (∀ x ∈ zs, Wild (3 * (i + 1)) (l + 4 * (i + 1)) x))
        ⟨v6, [], rfl, Evl.Ex.new hg, upd_same, Nat.le_refl _, fun x hx => by simp at hx⟩ (fun j σ H' _ z => by obtain ⟨_, _, _, e2, _⟩ := z; exact SqL.of (e2 _ _ hpl)) ?_ ?_
      · rintro j y σ H1 H3 hj ⟨v6, zs, rfl, ex2, hgl, hzs, hzw⟩ ⟨rfl, hy⟩
        have hjr : j < rs.length := by simpa using hj
        have hyr : y = .str rs[j] := by
          rw [List.getElem?_map, List.getElem?_eq_getElem hjr] at hy
          exact (Option.some.inj hy).symm
        subst hyr
        have ex3 := ex.trans ex2
        refine ⟨_, rfl, .inl ⟨rfl, _, SqL.of hgl⟩, _, rfl, _, rfl, m, f, words, rs[j], 3 * i, l + 4 * i, rfl, hM.ex ex3, ok, hws _ (List.getElem_mem hjr), by omega, fun H4 b ys ex4 hb hb4 hyl hyw => ?_⟩
        refine ⟨g, b, _, _, rfl, rfl, ex4 _ _ hgl, hb4, (by rw [List.length_map, List.length_map]; exact size_of (by omega)), _, zs ++ ys, rfl, Evl.Ex.mut (ex2.trans ex4) hg, ?_, by rw [List.length_append]; omega, fun x hx => ?_⟩
        · rw [upd_same, List.map_append]
        · rcases List.mem_append.mp hx with h1 | h1
          · exact hzw x h1
          · have z := hyw x h1
            exact ⟨z.cs, by have := z.n; omega, by have := z.l; omega⟩
      · rintro σ H1 ⟨v6, zs, rfl, ex2, hgl, hzs, hzw⟩
        refine ⟨_, rfl, g, _, _, _, zs, rfl, ex.trans ex2, hgl, ?_, hzw⟩
        rw [List.length_map] at hzs
        rw [Nat.pow_succ]
        omega
    · rintro σ H1 ⟨p, v4, v5, v6, rs, rfl, ex, hpl, hrs, hws⟩
      have h8 : 8 ^ n ≤ 4096 := Nat.pow_le_pow_right (n := 8) (by decide) hn
      refine ⟨_, rfl, _, rfl, m, p, f, words, rs, l + 4 * n, rfl, hM.ex ex, ok.w8, hpl, by omega, fun x hx => ?_, fun k hk => q H1 k ex hk⟩
      have z := hws x hx
      exact ⟨z.cs, by have := z.n; omega, z.l⟩
end
end Tg

namespace Tg
open PySem PySem.Spec PyProof.Rows L2
/-! ### rows of the desk, by their words: what the law asks -/
def wordsOf (t : Str) : List Str := Txt.split t " "
theorem sp_one : (" " : Str) = ⟨#[32]⟩ := by decide +kernel
theorem words_ne (t : Str) : wordsOf t ≠ [] := fun e => by
  have h := split_pos t " "
  unfold wordsOf at e
  rw [e] at h
  simp at h
theorem words_free {t x : Str} (h : x ∈ wordsOf t) : 32 ∉ x.cps.toList := by
  unfold wordsOf at h
  rw [sp_one] at h
  exact StrLaws.split_free t 32 x h
theorem words_join (t : Str) : Str.join " " (wordsOf t) = t := StrLaws.join_split t " "
theorem words_short {t x : Str} (h : x ∈ wordsOf t) : x.length ≤ t.length := part_short h
theorem words_len (t : Str) : (wordsOf t).length ≤ t.length + 2 := split_le t " "
/-! #### flat things in lists of texts -/
theorem eqV_str (a b : Str) : eqV (.str a) (.str b) = decide (a = b) := by
  show (a == b) = _
  by_cases h : a = b
  · subst h
    simp
  · rw [decide_eq_false h]
    exact beq_eq_false_iff_ne.mpr h
theorem inV_strs (x : Str) : ∀ l : List Str, inV (.str x) (l.map V.str) = decide (x ∈ l)
  | [] => rfl
  | a :: l => by
    have ih := inV_strs x l
    unfold inV at ih ⊢
    rw [List.map_cons, List.any_cons, ih, eqV_str]
    by_cases h : a = x
    · subst h
      simp
    · rw [decide_eq_false h, Bool.false_or, Bool.eq_iff_iff, decide_eq_true_eq, decide_eq_true_eq, List.mem_cons]
      exact ⟨.inr, fun z => z.elim (fun e => absurd e.symm h) id⟩
theorem flat_strs (l : List Str) : (l.map V.str).all flatV = true := by
  rw [List.all_map, List.all_eq_true]
  intro x _
  rfl
/-! #### a machine's text -/
def fronts : List Str := ["1", "2", "3", "4"]
def wordB (n : Nat) (x : Str) : Bool := decide (x = "-") || (decide (x ≠ "") && (decide (x.length ≤ 8) && allIn x (sg n)))
def machW : List Str → Bool
  | [] => false
  | f :: r => decide (1 ≤ r.length) && decide (r.length ≤ 8) && (decide (f ∈ fronts) && r.all (wordB r.length))
def readW (x : Str) : Str := if x = "-" then "" else x
theorem empty_len : ("" : Str).length = 0 := by decide +kernel
theorem len_zero {x : Str} (h : x.length = 0) : x = "" := by
  apply str_ext
  have e : x.cps.toList.length = 0 := by rw [len_list]; exact h
  rw [List.eq_nil_of_length_eq_zero e]
  decide +kernel
theorem wordB_read {n : Nat} {x : Str} (h : x ≠ "") : wordB n x = (allIn (readW x) (sg n) && decide ((readW x).length ≤ 8)) := by
  unfold wordB readW
  by_cases hd : x = "-"
  · rw [if_pos hd, decide_eq_true hd, allIn_empty, empty_len]
    rfl
  · rw [if_neg hd, decide_eq_false hd, decide_eq_true h, Bool.false_or, Bool.true_and, Bool.and_comm]
theorem wordB_no (n : Nat) : wordB n "" = false := by
  unfold wordB
  rw [decide_eq_false (by decide +kernel), decide_eq_false (show ¬ (("" : Str) ≠ "") by simp)]
  rfl
/-- the desk's look at a machine's text: what its reading takes -/
theorem machW_read {f : Str} {r : List Str} {k : Int} (hk : f ∈ fronts → 1 ≤ k ∧ k ≤ 4) : machW (f :: r) = (decide (("" : Str) ∉ f :: r) && (decide (f ∈ fronts) && machB k (r.map readW))) := by
  show (decide (1 ≤ r.length) && decide (r.length ≤ 8) && (decide (f ∈ fronts) && r.all (wordB r.length))) = _
  by_cases h0 : ("" : Str) ∈ f :: r
  · rw [decide_eq_false (not_not_intro h0), Bool.false_and]
    rcases List.mem_cons.mp h0 with e | e
    · rw [← e, decide_eq_false (show ("" : Str) ∉ fronts by decide +kernel)]
      simp
    · have : r.all (wordB r.length) = false := by
        rw [List.all_eq_false]
        exact ⟨"", e, by rw [wordB_no]; simp⟩
      rw [this]
      simp
  · rw [decide_eq_true h0, Bool.true_and]
    by_cases hf : f ∈ fronts
    · obtain ⟨k1, k4⟩ := hk hf
      rw [decide_eq_true hf, Bool.true_and, Bool.true_and]
      unfold machB
      rw [decide_eq_true k1, decide_eq_true k4, List.length_map, List.all_map]
      have e : r.all (wordB r.length) = r.all ((fun x => allIn x (sg r.length) && decide (x.length ≤ 8)) ∘ readW) := by
        rw [Bool.eq_iff_iff, List.all_eq_true, List.all_eq_true]
        have ne : ∀ x ∈ r, x ≠ "" := fun x hx e => h0 (List.mem_cons_of_mem _ (e ▸ hx))
        exact ⟨fun h x hx => by show (allIn (readW x) _ && _) = true; rw [← wordB_read (ne x hx)]; exact h x hx, fun h x hx => by rw [wordB_read (ne x hx)]; exact h x hx⟩
      rw [e]
      rfl
    · rw [decide_eq_false hf, Bool.false_and, Bool.false_and, Bool.and_false]
/-! #### a number's word -/
/-- figures alone, one to four, no nought ahead, at most so much -/
def numB (x : Str) (most : Int) : Bool := decide (1 ≤ x.length) && (decide (x.length ≤ 4) && ((decide (x.cps.toList.head? ≠ some 48) || decide (x = "0")) && (x.cps.toList.all (fun c => decide (48 ≤ c ∧ c ≤ 57)) && decide (((NumText.digitsVal x.cps.toList : Nat) : Int) ≤ most))))
theorem num_int {x : Str} (h1 : 1 ≤ x.length) (h4 : x.length ≤ 4) (hd : x.cps.toList.all (fun c => decide (48 ≤ c ∧ c ≤ 57)) = true) : PySem.intText? x = some ((NumText.digitsVal x.cps.toList : Nat) : Int) := by
  refine intText_digits ?_ ?_ (by omega)
  · intro c hc
    rw [List.all_eq_true] at hd
    exact of_decide_eq_true (hd c hc)
  · intro e
    have z := len_list x
    rw [e] at z
    simp at z
    omega
theorem zero_list : ("0" : Str).cps.toList = [48] := by decide +kernel
/-- str(int(word)) == word: no nought ahead -/
theorem num_text {x : Str} (h1 : 1 ≤ x.length) (hd : x.cps.toList.all (fun c => decide (48 ≤ c ∧ c ≤ 57)) = true) :
    (Str.ofString (toString ((NumText.digitsVal x.cps.toList : Nat) : Int)) = x) ↔ (x.cps.toList.head? ≠ some 48 ∨ x = "0") := by
  have hA : NumText.AllDigits x.cps.toList := by
    intro c hc
    rw [List.all_eq_true] at hd
    exact of_decide_eq_true (hd c hc)
  have e1 : (Str.ofString (toString ((NumText.digitsVal x.cps.toList : Nat) : Int))).cps.toList = (Nat.toDigits 10 (NumText.digitsVal x.cps.toList)).map Char.toNat := PySem.W.KIN.signs_num _
  have e2 := NumText.toDigits_all x.cps.toList hA
  have back : ∀ l : List Nat, NumText.AllDigits l → (l.map Char.ofNat).map Char.toNat = l := by
    intro l hl
    rw [List.map_map]
    have : ∀ c ∈ l, (Char.toNat ∘ Char.ofNat) c = c := by
      intro c hc
      have r := hl c hc
      have a : ∀ k : Fin 10, (Char.ofNat (48 + k.val)).toNat = 48 + k.val := by decide
      have z := a ⟨c - 48, by omega⟩
      show (Char.ofNat c).toNat = c
      have e : 48 + (c - 48) = c := by omega
      simp only [e] at z
      exact z
    rw [List.map_congr_left this, List.map_id']
  constructor
  · intro h
    by_cases hh : x.cps.toList.head? = some 48
    · right
      have e3 := congrArg (fun z : Str => z.cps.toList) h
      change (Str.ofString (toString ((NumText.digitsVal x.cps.toList : Nat) : Int))).cps.toList = x.cps.toList at e3
      rw [e1, e2] at e3
      cases q : x.cps.toList.dropWhile (· == 48) with
      | nil =>
        rw [q] at e3
        apply str_ext
        rw [zero_list, ← e3]
        rfl
      | cons c r =>
        exfalso
        rw [q] at e3
        have l1 := congrArg List.length e3
        rw [List.length_map, List.length_map, ← q] at l1
        cases ex : x.cps.toList with
        | nil => rw [ex] at hh; cases hh
        | cons d t =>
          rw [ex] at hh l1
          have : d = 48 := by simpa using hh
          subst this
          rw [List.dropWhile_cons] at l1
          have l2 := (List.dropWhile_suffix (l := t) (fun z : Nat => z == 48)).length_le
          simp at l1
          omega
    · exact .inl hh
  · intro h
    rcases h with h | h
    · apply str_ext
      rw [e1, e2]
      cases ex : x.cps.toList with
      | nil =>
        have z := len_list x
        rw [ex] at z
        simp at z
        omega
      | cons d t =>
        rw [ex] at h
        have hd : ¬ d = 48 := by simpa using h
        rw [List.dropWhile_cons, if_neg (by rw [beq_iff_eq]; exact hd)]
        show ((d :: t).map Char.ofNat).map Char.toNat = _
        rw [← ex]
        exact back _ hA
    · subst h
      decide +kernel
/-! #### a row -/
def formN (a : Str) : Option Nat := if a = "put" then some 3 else if a = "drop" then some 2 else if a = "undo" then some 1 else if a = "run" then some 3 else if a = "row" then some 2 else if a = "gone" then some 2 else if a = "names" then some 1 else if a = "fate" then some 3 else if a = "count" then some 3 else none
def boundN (a : Str) : Option Int := if a = "run" then some 200 else if a = "fate" then some 400 else if a = "count" then some 4 else none
def lookW (l : List Str) : Bool := decide (("" : Str) ∉ l) && decide (formN (l.getD 0 "") = some l.length)
def rowW (l : List Str) : Bool := lookW l && (match boundN (l.getD 0 "") with | none => true | some m => numB (l.getD 2 "") m)
/-- a text behind `machine ` -/
def behind (t : Str) : Str := cutS t (some 8) none
def isMach (t : Str) : Bool := decide ((wordsOf t).getD 0 "" = "machine")
def rowB (t : Str) : Bool := if isMach t = true then machW (wordsOf (behind t)) else rowW (wordsOf t)
theorem starts_iff (t p : Str) : Txt.startswith t p = true ↔ ∃ r, t.cps.toList = p.cps.toList ++ r := by
  unfold Txt.startswith
  rw [Bool.and_eq_true, decide_eq_true_eq, PySem.StrLaws.subAt_eq, List.drop_zero, beq_iff_eq]
  constructor
  · rintro ⟨_, e⟩
    exact ⟨t.cps.toList.drop p.length, by rw [← e, List.take_append_drop]⟩
  · rintro ⟨r, e⟩
    have l := congrArg List.length e
    rw [List.length_append, len_list, len_list] at l
    refine ⟨by omega, ?_⟩
    rw [e, ← len_list p]
    exact List.take_left
theorem mach_list : ("machine " : Str).cps.toList = ("machine" : Str).cps.toList ++ [32] := by decide +kernel
theorem starts_short {t : Str} (h : Txt.startswith t "machine " = true) : Txt.startswith t "machine" = true := by
  rw [starts_iff] at h ⊢
  obtain ⟨r, e⟩ := h
  exact ⟨32 :: r, by rw [e, mach_list, List.append_assoc]; rfl⟩
theorem starts_mach {t : Str} (h : Txt.startswith t "machine " = true) : isMach t = true := by
  rw [starts_iff] at h
  obtain ⟨r, e⟩ := h
  have k := TL.split_spl t " " (show (" " : Str).cps.toList ≠ [] by decide +kernel) (TL.kind_ok (by decide +kernel))
  have e1 : TL.tl t = ("machine" : Str).cps.toList ++ (32 :: [] ++ r) := by
    show t.cps.toList = _
    rw [e, mach_list, List.append_assoc]
  have e2 : TL.tl " " = 32 :: [] := by decide +kernel
  rw [e1, e2, TL.spl_part1 (by decide +kernel), List.nil_append] at k
  unfold isMach wordsOf
  cases q : Txt.split t " " with
  | nil => rw [q] at k; cases k
  | cons a l =>
    rw [q] at k
    have k1 := (List.cons.inj k).1
    exact decide_eq_true (str_ext k1)
theorem mach_starts {t : Str} (h : isMach t = true) : Txt.startswith t "machine " = true ∨ t = "machine" := by
  have e := of_decide_eq_true h
  have j := words_join t
  cases q : wordsOf t with
  | nil => exact absurd q (words_ne t)
  | cons a l =>
    rw [q] at e j
    have e : a = "machine" := e
    subst e
    cases l with
    | nil => exact .inr j.symm
    | cons b r =>
      left
      rw [starts_iff]
      refine ⟨(Str.join " " (b :: r)).cps.toList, ?_⟩
      rw [← j]
      show ((("machine" : Str) ++ " " ++ Str.join " " (b :: r) : Str)).cps.toList = _
      rw [app_list, app_list, mach_list]
      rfl
theorem rowB_mach {t : Str} (h : Txt.startswith t "machine " = true) : rowB t = machW (wordsOf (behind t)) := if_pos (starts_mach h)
theorem rowW_mach (l : List Str) (h : l.getD 0 "" = "machine") : rowW l = false := by
  unfold rowW lookW
  rw [h, decide_eq_false (show ¬ (formN "machine" = some l.length) by rw [show formN "machine" = none by decide +kernel]; simp)]
  rw [Bool.and_false, Bool.false_and]
theorem rowB_else {t : Str} (h : Txt.startswith t "machine " = false) : rowB t = rowW (wordsOf t) := by
  unfold rowB
  by_cases hm : isMach t = true
  · rw [if_pos hm, rowW_mach _ (of_decide_eq_true hm)]
    rcases mach_starts hm with e | e
    · rw [e] at h; cases h
    · subst e
      decide +kernel
  · rw [if_neg hm]
end Tg

namespace Tg
open PySem PySem.Spec PyProof.Rows L2
def az : Str := "abcdefghijklmnopqrstuvwxyz"
def nameB (t : Str) : Bool := decide (1 ≤ t.length) && (decide (t.length ≤ 8) && allIn t az)
theorem all_take {p : Nat → Bool} {l : List Nat} : (l.map p).all id = l.all p := by
  rw [List.all_map]
  rfl
theorem cutV_one (a : V) (l : List V) : cutV (a :: l) (some 1) none = l := by
  unfold cutV
  have e1 : HT.sIx (a :: l).length 0 (some 1) = 1 := by
    show HT.sIx (l.length + 1) 0 (some 1) = 1
    simp [HT.sIx]
    try omega
  rw [e1]
  show ((a :: l).drop 1).take _ = l
  rw [List.drop_one, List.tail_cons]
  apply List.take_of_length_le
  simp [HT.sIx]
theorem front_at {f : Str} (h : f ∈ fronts) : ∃ j : Nat, j < 4 ∧ ([.str "1", .str "2", .str "3", .str "4"] : List V)[j]? = some (.str f) ∧ ∀ (m : Nat) (z' : V), m < j → ([.str "1", .str "2", .str "3", .str "4"] : List V)[m]? = some z' → eqV z' (.str f) = false := by
  have key : ∀ j : Nat, j < 4 → ∀ m : Nat, m < j → ∀ z', (fronts.map V.str)[m]? = some z' → eqV z' (.str (fronts.getD j "")) = false := by
    intro j hj m hm z' hz
    have hm4 : m < 4 := by omega
    have ez : z' = .str (fronts.getD m "") := by
      have a : ∀ k : Fin 4, (fronts.map V.str)[k.val]? = some (.str (fronts.getD k.val "")) := by
        intro k
        match k with
        | 0 => rfl
        | 1 => rfl
        | 2 => rfl
        | 3 => rfl
      have := a ⟨m, hm4⟩
      rw [hz] at this
      exact Option.some.inj this
    rw [ez, eqV_str]
    have b : ∀ (x y : Fin 4), x.val < y.val → decide (fronts.getD x.val "" = fronts.getD y.val "") = false := by decide +kernel
    exact b ⟨m, hm4⟩ ⟨j, hj⟩ hm
  rcases (by simpa [fronts] using h : f = "1" ∨ f = "2" ∨ f = "3" ∨ f = "4") with e | e | e | e
  · subst e; exact ⟨0, by omega, rfl, fun m z' hm hz => key 0 (by omega) m hm z' hz⟩
  · subst e; exact ⟨1, by omega, rfl, fun m z' hm hz => key 1 (by omega) m hm z' hz⟩
  · subst e; exact ⟨2, by omega, rfl, fun m z' hm hz => key 2 (by omega) m hm z' hz⟩
  · subst e; exact ⟨3, by omega, rfl, fun m z' hm hz => key 3 (by omega) m hm z' hz⟩
theorem readW_len (x : Str) : (readW x).length ≤ x.length := by
  unfold readW
  split
  · rw [empty_len]
    exact Nat.zero_le _
  · exact Nat.le_refl _
section
variable {P : Program} {w : World} {K : PySem.W.Frag} {mg : Str → Option Value} {base : Heap}
def spIsName : Sp := fun vs H Q _ => ∃ t : Str, vs = [.str t] ∧ t.length ≤ 16000000 ∧ ∀ H', Evl.Ex H H' → Q (.bl (nameB t)) H'
theorem k_is_name (T : Txt w K mg) : Kp P w K mg base CX0 1 (He.fAd K ("is_name", none)) P_is_name spIsName := by
  refine Kp.of T.d_is_name sc_is_name bn_is_name (fun vs H Q E h => ?_) (fun f cdv A outer s H vs Q E hr h => ?_)
  · obtain ⟨t, rfl, _⟩ := h
    rfl
  · obtain ⟨t, rfl, hlen, q⟩ := h
    refine ⟨_, (pss_cons (ps_if (PW.pt (pw_or (pt_not (pt_val (pe_callB call_isi rfl T.f_isinstance (by decide +kernel) (pa_cons (pv 0) (pa_cons (pe_bltn (v := .ty "str") (u := .type "str") rfl T.f_str (by decide +kernel) rfl) pa_nil))))) (pw_or1 (pt_not (pt_chain op_le op_le pe_int (pe_callB call_len_str rfl T.f_len (by decide +kernel) (pa_cons (pv 0) pa_nil)) (pe_glob (v := .int 8) rfl (Classical.choose_spec T.c_LONGEST_NAME) ⟨_, rfl⟩)))))) (pss_one (ps_ret pe_bl)) pss_nil)
      (pss_one (ps_ret (pe_callB (cr_all rfl) rfl T.f_all (by decide +kernel) (pa_cons (pe_lc (own := [("sign", 1)]) (g := gName 1) (by rfl) sc_is_name.nd (pi_str (pv 0)) (blkOk_by (own := [("sign", 1)]) (N := N_is_name) (sc := defScope s_is_name) (by decide +kernel)) (fun _ _ _ _ _ => pg_name (i := 1) sc_is_name.nd rfl (by first | exact Or.inl rfl | exact Or.inr rfl)) (fun _ _ _ _ _ => pts_nil) (fun _ _ _ _ _ => (pe_cmpR op_in_sign (pv 1) (pe_glob (v := .str "abcdefghijklmnopqrstuvwxyz") rfl (Classical.choose_spec T.c_NAME_LETTERS) ⟨_, rfl⟩) (by rfl)))) pa_nil))))), ?_⟩
    refine ⟨_, rfl, _, _, _, _, true, rfl, .ty _, .base (.str t), kit_ty (by decide +kernel), true, rfl, iteF ?_⟩
    refine ⟨_, rfl, _, rfl, size_of hlen, 1, _, rfl, rfl, _, rfl, ?_⟩
    have q0 := fun (e : nameB t = false) => by
      have z := q H (Evl.Ex.refl H)
      rw [e] at z
      exact z
    by_cases h1 : 1 ≤ t.length
    · rw [if_pos (by rw [decide_eq_true_eq]; omega)]
      refine ⟨_, 8, rfl, rfl, _, rfl, ?_⟩
      by_cases h8 : t.length ≤ 8
      · have e8 : decide (((t.length : Nat) : Int) ≤ 8) = true := by rw [decide_eq_true_eq]; omega
        rw [e8]
        refine iteF ?_
        refine ⟨_, rfl, t, rfl, fun D hD => lc_it walk_str (fun i H' => Evl.Ex H H' ∧ H' D = some (.lst (((t.cps.toList.take i).map fun c => decide (c ∈ az.cps.toList)).map V.bl))) ⟨Evl.Ex.new hD, upd_same⟩ (fun _ _ _ _ => trivial) ?_ ?_⟩
        · rintro i x H1 H2 hi ⟨ex, hDl⟩ ⟨rfl, c, hc, rfl⟩
          have hcl : t.cps.toList[i]? = some c := by simpa using hc
          refine ⟨rfl, ?_⟩
          refine ⟨_, rfl, c, az, rfl, rfl, _, hDl, ?_, Evl.Ex.mut ex hD, ?_⟩
          · rw [List.length_map, List.length_map, List.length_take, len_list]
            exact size_lt (by omega)
          · rw [upd_same, List.take_succ, hcl, List.map_append, List.map_append]
            rfl
        · rintro H1 ⟨ex, hDl⟩
          refine ⟨D, (t.cps.toList.take t.length).map fun c => decide (c ∈ az.cps.toList), rfl, SqL.of hDl, ?_⟩
          have e : ((t.cps.toList.take t.length).map fun c => decide (c ∈ az.cps.toList)).all id = nameB t := by
            rw [List.take_of_length_le (by rw [len_list]; omega), List.all_map]
            unfold nameB allIn
            rw [decide_eq_true h1, decide_eq_true h8]
            rfl
          rw [e]
          exact q H1 ex
      · have e8 : decide (((t.length : Nat) : Int) ≤ 8) = false := by rw [decide_eq_false_iff_not]; omega
        rw [e8]
        refine iteT (q0 ?_)
        unfold nameB
        rw [decide_eq_false h8]
        simp
    · rw [if_neg (by rw [decide_eq_true_eq]; omega)]
      refine ⟨_, rfl, iteT (q0 ?_)⟩
      unfold nameB
      rw [decide_eq_false h1]
      simp
def showW (x : Str) : Str := if x = "" then "-" else x
def spShown : Sp := fun vs H Q _ => ∃ t : Str, vs = [.str t] ∧ Q (.str (showW t)) H
theorem k_shown_word (T : Txt w K mg) : Kp P w K mg base CX0 1 (He.fAd K ("shown_word", none)) P_shown_word spShown := by
  refine Kp.of T.d_shown_word sc_shown_word bn_shown_word (fun vs H Q E h => ?_) (fun f cdv A outer s H vs Q E hr h => ?_)
  · obtain ⟨t, rfl, _⟩ := h
    rfl
  · obtain ⟨t, rfl, q⟩ := h
    refine ⟨_, (pss_cons (ps_if (pt_cmpR op_eq (pv 0) pe_str (nomark _)) (pss_one (ps_ret (pe_glob (v := .str "-") rfl (Classical.choose_spec T.c_NONE) ⟨_, rfl⟩))) pss_nil)
      (pss_one (ps_ret (pv 0)))), ?_⟩
    refine ⟨_, rfl, rfl, _, rfl, ?_⟩
    unfold showW at q
    refine ite2 (fun h => ?_) (fun h => ?_)
    · have h : t = "" := by simpa using h
      rw [if_pos h] at q
      exact q
    · have h : ¬ t = "" := by simpa using h
      rw [if_neg h] at q
      exact ⟨_, rfl, q⟩
def spReadWord : Sp := fun vs H Q _ => ∃ t : Str, vs = [.str t] ∧ Q (.str (readW t)) H
theorem k_read_word (T : Txt w K mg) : Kp P w K mg base CX0 1 (He.fAd K ("read_word", none)) P_read_word spReadWord := by
  refine Kp.of T.d_read_word sc_read_word bn_read_word (fun vs H Q E h => ?_) (fun f cdv A outer s H vs Q E hr h => ?_)
  · obtain ⟨t, rfl, _⟩ := h
    rfl
  · obtain ⟨t, rfl, q⟩ := h
    refine ⟨_, (pss_cons (ps_if (pt_cmpR op_eq (pv 0) (pe_glob (v := .str "-") rfl (Classical.choose_spec T.c_NONE) ⟨_, rfl⟩) (nomark _)) (pss_one (ps_ret pe_str)) pss_nil)
      (pss_one (ps_ret (pv 0)))), ?_⟩
    refine ⟨_, rfl, rfl, _, rfl, ?_⟩
    unfold readW at q
    refine ite2 (fun h => ?_) (fun h => ?_)
    · have h : t = "-" := by simpa using h
      rw [if_pos h] at q
      exact q
    · have h : ¬ t = "-" := by simpa using h
      rw [if_neg h] at q
      exact ⟨_, rfl, q⟩
def spRead (K : PySem.W.Frag) : Sp := fun vs H Q E => ∃ t : Str, vs = [.str t] ∧ t.length ≤ 5000 ∧
  (machW (wordsOf t) = true → ∀ H' m f words, Evl.Ex H H' → MachT H' m f words → MachOk f words → words = (wordsOf t).tail.map readW → Q (.ref m) H') ∧ (machW (wordsOf t) = false → ∀ H', Evl.Ex H H' → E (.ref (He.ga K "NoText")) none H')
theorem k_read (T : Txt w K mg) : Kp P w K mg base (L2N.CX P w) 4 (He.fAd K ("read", none)) P_read (spRead K) := by
  have G_read_word := k_read_word (P := P) (base := base) T
  have G_is_machine := k_is_machine (P := P) (base := base) T
  refine Kp.of T.d_read sc_read bn_read (fun vs H Q E h => ?_) (fun f cdv A outer s H vs Q E hr h => ?_)
  · obtain ⟨t, rfl, _⟩ := h
    rfl
  · obtain ⟨t, rfl, hl, q1, q2⟩ := h
    refine ⟨_, (pss_cons (ps_if (pt_not (pt_val (pe_callB call_isi rfl T.f_isinstance (by decide +kernel) (pa_cons (pv 0) (pa_cons (pe_bltn (v := .ty "str") (u := .type "str") rfl T.f_str (by decide +kernel) rfl) pa_nil))))) (pss_one (ps_erN rfl (L2N.takes_of rfl rfl rfl rfl) T.e_NoText rfl)) pss_nil)
      (pss_cons (ps_set (i := 1) sc_read.nd rfl (by first | exact Or.inl rfl | exact Or.inr rfl) (pe_split (pv 0) pe_str))
      (pss_cons (ps_if (PW.pt (pw_or (pt_cmpR op_in_seq pe_str (pv 1) (by rfl)) (pw_or1 (pt_cmpR op_notIn_seq (pe_ix ix_list (pv 1) pe_int (fun _ _ => rfl)) (pe_glob (v := .ref (He.ga K "FRONTS")) rfl T.g_FRONTS rfl) (by rfl))))) (pss_one (ps_erN rfl (L2N.takes_of rfl rfl rfl rfl) T.e_NoText rfl)) pss_nil)
      (pss_cons (ps_set (i := 2) sc_read.nd rfl (by first | exact Or.inl rfl | exact Or.inr rfl) (pe_tup (pa_cons (pe_op op_add (pe_bm PySem.F.plainAttrs_list PySem.F.slot_list_index PySem.F.type_list_index mt_index (pe_glob (v := .ref (He.ga K "FRONTS")) rfl T.g_FRONTS rfl) (pa_cons (pe_ix ix_list (pv 1) pe_int (fun _ _ => rfl)) pa_nil)) pe_int) (pa_cons (pe_callTy call_tuple_of rfl T.f_tuple (by decide +kernel) (pa_cons (pe_lc (own := [("part", 3)]) (g := gName 3) (by rfl) sc_read.nd (pi_list (pe_slice sl_list (pv 1) (po_some pe_int) po_none)) (blkOk_by (own := [("part", 3)]) (N := N_read) (sc := defScope s_read) (by decide +kernel)) (fun _ _ _ _ _ => pg_name (i := 3) sc_read.nd rfl (by first | exact Or.inl rfl | exact Or.inr rfl)) (fun _ _ _ _ _ => pts_nil) (fun _ _ _ _ _ => (pe_fn G_read_word (hr.mono (by decide)) rfl T.g_read_word pass0 (pa_cons (pv 3) pa_nil)))) pa_nil)) pa_nil))))
      (pss_cons (ps_if (pt_not (pt_val (pe_fn G_is_machine (hr.mono (by decide)) rfl T.g_is_machine pass0 (pa_cons (pv 2) pa_nil)))) (pss_one (ps_erN rfl (L2N.takes_of rfl rfl rfl rfl) T.e_NoText rfl)) pss_nil)
      (pss_one (ps_ret (pv 2)))))))), ?_⟩
    refine ⟨_, rfl, _, _, _, _, true, rfl, .ty _, .base (.str t), kit_ty (by decide +kernel), true, rfl, iteF ?_⟩
    refine ⟨_, rfl, ⟨_, rfl⟩, t, " ", rfl, rfl, (by decide +kernel), size_of (by omega), fun p hp => ?_⟩
    show gName 1 (V.ref p) _ (upd H p (.lst ((wordsOf t).map V.str))) _
    have hwl := words_len t
    have hws : ∀ x ∈ wordsOf t, x.length ≤ 5000 := fun x hx => Nat.le_trans (words_short hx) hl
    have hne := words_ne t
    generalize wordsOf t = ws at *
    cases ws with
    | nil => exact absurd rfl hne
    | cons f r =>
      refine ⟨_, rfl, p, _, rfl, .inl (SqL.of upd_same), rfl, flat_strs _, _, rfl, ?_⟩
      have exp : Evl.Ex H (upd H p (.lst ((f :: r).map V.str))) := Evl.Ex.new hp
      refine ite2 (fun h0 => ?_) (fun h0 => ?_)
      · have h0 : inV (.str "") ((f :: r).map V.str) = true := h0
        rw [inV_strs] at h0
        refine q2 ?_ _ exp
        rw [machW_read (k := 1) (fun _ => ⟨by omega, by omega⟩), decide_eq_false (not_not_intro (of_decide_eq_true h0))]
        rfl
      · have h0 : ¬ inV (.str "") ((f :: r).map V.str) = true := h0
        rw [inV_strs, decide_eq_true_eq] at h0
        refine ⟨_, rfl, p, _, ((0 : Nat) : Int), .str f, rfl, rfl, SqL.of upd_same, atI_nat rfl, _, _, rfl, .inl (T.fronts _), rfl, rfl, _, rfl, ?_⟩
        refine ite2 (fun h1 => ?_) (fun h1 => ?_)
        · have h1 : (!inV (.str f) (fronts.map V.str)) = true := h1
          rw [inV_strs] at h1
          refine q2 ?_ _ exp
          rw [machW_read (k := 1) (fun _ => ⟨by omega, by omega⟩)]
          have : decide (f ∈ fronts) = false := by simpa using h1
          rw [this, Bool.false_and, Bool.and_false]
        · have h1 : ¬ (!inV (.str f) (fronts.map V.str)) = true := h1
          rw [inV_strs] at h1
          have hf : f ∈ fronts := by simpa using h1
          obtain ⟨j, hj4, hj, hno⟩ := front_at hf
          have em : machW (f :: r) = machB ((j : Int) + 1) (r.map readW) := by
            rw [machW_read (k := (j : Int) + 1) (fun _ => ⟨by omega, by omega⟩), decide_eq_true h0, decide_eq_true hf]
            rfl
          have hrl : r.length ≤ 5002 := by
            rw [List.length_cons] at hwl
            omega
          refine ⟨.inl ⟨rfl, _, T.fronts _⟩, _, rfl, p, _, ((0 : Nat) : Int), .str f, rfl, rfl, SqL.of upd_same, atI_nat rfl, _, _, _, j, _, rfl, rfl, T.fronts _, rfl, rfl, hj, (by rw [eqV_str]; simp), hno, _, _, rfl, rfl, ?_⟩
          refine ⟨_, rfl, 1, rfl, p, _, rfl, SqL.of upd_same, fun p2 hp2 => ?_⟩
          rw [show cutV ((f :: r).map V.str) (some 1) none = r.map V.str from cutV_one _ _]
          have ex2 := exp.trans (Evl.Ex.new (o := .lst (r.map V.str)) hp2)
          refine ⟨p2, rfl, ⟨_, SqL.of upd_same⟩, fun D hD => lc_it (walk_list (xs := r.map V.str)) (fun i H' => Evl.Ex (upd (upd H p (.lst ((f :: r).map V.str))) p2 (.lst (r.map V.str))) H' ∧ H' D = some (.lst (((r.take i).map readW).map V.str))) ⟨Evl.Ex.new hD, upd_same⟩
            (fun i H' _ z => SqL.of (z.1 _ _ upd_same)) ?_ ?_⟩
          · rintro i x H1 H2 hi ⟨ex, hDl⟩ ⟨rfl, hx⟩
            have hiw : i < r.length := by simpa using hi
            have hxw : x = .str r[i] := by
              rw [List.getElem?_map, List.getElem?_eq_getElem hiw] at hx
              exact (Option.some.inj hx).symm
            subst hxw
            refine ⟨rfl, ?_⟩
            refine ⟨_, rfl, r[i], rfl, _, hDl, ?_, Evl.Ex.mut ex hD, ?_⟩
            · rw [List.length_map, List.length_map, List.length_take]
              exact size_lt (by omega)
            · rw [upd_same, List.take_succ, List.getElem?_eq_getElem hiw, List.map_append, List.map_append]
              rfl
          · rintro H3 ⟨ex3, hDl⟩
            rw [List.length_map, List.take_of_length_le (Nat.le_refl _)] at hDl
            refine ⟨D, _, rfl, .inl ⟨SqL.of hDl, fun l hl => ?_⟩⟩
            refine ⟨size_of (by show 2 ≤ 16000000; decide), fun m hm => ?_⟩
            have exl := (ex2.trans ex3).trans (Evl.Ex.new (o := .tup ((r.map readW).map V.str)) hl)
            have exm := Evl.Ex.new (o := .tup [.int ((j : Int) + 1), .ref l]) hm
            refine ⟨_, rfl, m, l, (j : Int) + 1, r.map readW, rfl, upd_same, exm _ _ upd_same, by rw [List.length_map]; omega, fun w hw => ?_, fun H' ex' => ?_⟩
            · obtain ⟨x, hx, rfl⟩ := List.mem_map.mp hw
              have := hws x (List.mem_cons_of_mem _ hx)
              exact Nat.le_trans (readW_len x) (by omega)
            · refine ⟨_, rfl, ?_⟩
              refine ite2 (fun hb => ?_) (fun hb => ?_)
              · refine q2 ?_ _ ((exl.trans exm).trans ex')
                rw [em]
                simpa using hb
              · have hb : machB ((j : Int) + 1) (r.map readW) = true := by simpa using hb
                exact ⟨_, rfl, q1 (by rw [em]; exact hb) _ m _ _ ((exl.trans exm).trans ex') ⟨l, ex' _ _ upd_same, ex' _ _ (exm _ _ upd_same)⟩ (machOk_of hb) rfl⟩
end
end Tg

namespace Tg
open PySem PySem.Spec PyProof.Rows L2
/-! ### sorted texts: one only -/
theorem ltn_antisymm : ∀ a b : List Nat, ltCps a b = false → ltCps b a = false → a = b
  | [], [], _, _ => rfl
  | [], _ :: _, h, _ => by cases h
  | _ :: _, [], _, h => by cases h
  | x :: r, y :: t, h, g => by
    have h : (decide (x < y) || (x == y && ltCps r t)) = false := h
    have g : (decide (y < x) || (y == x && ltCps t r)) = false := g
    rw [Bool.or_eq_false_iff, decide_eq_false_iff_not] at h g
    have e : x = y := by omega
    subst e
    have h2 : ltCps r t = false := by simpa using h.2
    have g2 : ltCps t r = false := by simpa using g.2
    rw [ltn_antisymm r t h2 g2]
theorem ltn_trans : ∀ a b c : List Nat, ltCps b a = false → ltCps c b = false → ltCps c a = false
  | [], _, [], _, _ => rfl
  | [], [], _ :: _, _, _ => rfl
  | [], _ :: _, _ :: _, _, _ => rfl
  | _ :: _, [], _, h, _ => by cases h
  | _ :: _, _ :: _, [], _, h => by cases h
  | x :: r, y :: t, z :: u, h, g => by
    have h : (decide (y < x) || (y == x && ltCps t r)) = false := h
    have g : (decide (z < y) || (z == y && ltCps u t)) = false := g
    show (decide (z < x) || (z == x && ltCps u r)) = false
    rw [Bool.or_eq_false_iff, decide_eq_false_iff_not] at h g ⊢
    refine ⟨by omega, ?_⟩
    by_cases e : z = x
    · have e2 : y = x := by omega
      subst e
      subst e2
      have h2 : ltCps t r = false := by simpa using h.2
      have g2 : ltCps u t = false := by simpa using g.2
      rw [ltn_trans r t u h2 g2, Bool.and_false]
    · rw [beq_eq_false_iff_ne.mpr e, Bool.false_and]
theorem rising_pair : ∀ (p : Str) (l : List Str), risingS p l = true → (p :: l).Pairwise (fun a b => ltCps b.cps.toList a.cps.toList = false)
  | p, [], _ => List.pairwise_singleton _ _
  | p, x :: r, h => by
    have h : (!ltCps x.cps.toList p.cps.toList && risingS x r) = true := h
    rw [Bool.and_eq_true] at h
    have h1 : ltCps x.cps.toList p.cps.toList = false := by simpa using h.1
    have ih := rising_pair x r h.2
    refine .cons (fun c hc => ?_) ih
    rcases List.mem_cons.mp hc with rfl | hc
    · exact h1
    · exact ltn_trans _ _ _ h1 ((List.pairwise_cons.mp ih).1 c hc)
theorem sorted_pair : ∀ l : List Str, sortedS l = true → l.Pairwise (fun a b => ltCps b.cps.toList a.cps.toList = false)
  | [], _ => .nil
  | x :: r, h => rising_pair x r h
theorem sorted_one {xs ys ks : List Str} (hx : sortedS xs = true) (hy : sortedS ys = true) (px : xs.Perm ks) (py : ys.Perm ks) : xs = ys :=
  List.Perm.eq_of_pairwise (fun a b _ _ h h' => str_ext (ltn_antisymm _ _ h' h)) (sorted_pair xs hx) (sorted_pair ys hy) (px.trans py.symm)
/-! ### the bench in the heap -/
def Sol (H H' : Hp) : Prop := (∀ a xs, H a = some (.tup xs) → H' a = some (.tup xs)) ∧ ∀ a kvs, H a = some (.dK kvs) → H' a = some (.dK kvs)
/-- all but the addresses of S stays -/
def Fr (S : List Addr) (H H' : Hp) : Prop := ∀ a u, a ∉ S → H a = some u → H' a = some u
def softO : HO → Bool
  | .tup _ => false
  | .dK _ => false
  | _ => true
def Soft (H : Hp) (S : List Addr) : Prop := ∀ a ∈ S, ∀ u, H a = some u → softO u = true
theorem Fr.of_ex {S : List Addr} {H H' : Hp} (e : Evl.Ex H H') : Fr S H H' := fun a u _ h => e a u h
theorem Fr.ex_trans {S : List Addr} {H H1 H2 : Hp} (e : Evl.Ex H H1) (f : Fr S H1 H2) : Fr S H H2 := fun a u n h => f a u n (e a u h)
theorem Fr.trans_ex {S : List Addr} {H H1 H2 : Hp} (f : Fr S H H1) (e : Evl.Ex H1 H2) : Fr S H H2 := fun a u n h => e a u (f a u n h)
theorem Fr.mono {S S' : List Addr} {H H' : Hp} (f : Fr S H H') (h : ∀ a ∈ S, a ∈ S') : Fr S' H H' := fun a u n e => f a u (fun z => n (h a z)) e
theorem Fr.put {S : List Addr} {H H' : Hp} {p : Addr} {o : HO} (f : Fr S H H') (h : p ∈ S) : Fr S H (upd H' p o) := fun a u n e => by
  have : a ≠ p := fun z => n (z ▸ h)
  rw [upd_ne this]
  exact f a u n e
theorem Fr.mut {S : List Addr} {H H' : Hp} {p : Addr} {o : HO} (f : Fr S H H') (h : H p = none) : Fr S H (upd H' p o) := fun a u n e => by
  have : a ≠ p := fun z => by rw [z, h] at e; cases e
  rw [upd_ne this]
  exact f a u n e
theorem Fr.sol {S : List Addr} {H H' : Hp} (f : Fr S H H') (s : Soft H S) : Sol H H' := by
  refine ⟨fun a xs h => f a _ (fun n => ?_) h, fun a kvs h => f a _ (fun n => ?_) h⟩
  · have := s a n _ h
    cases this
  · have := s a n _ h
    cases this
theorem sol_ex {H H' : Hp} (e : Evl.Ex H H') : Sol H H' := ⟨fun a xs h => e _ _ h, fun a kvs h => e _ _ h⟩
def Kept (H : Hp) (words : List Str) (L : Nat) (kvs : List (Key × V)) : Prop :=
  kvs.length ≤ 12 ∧ ∀ p ∈ kvs, ∃ (n : Str) (t : Addr) (r : Str) (g : Int), p = (Sum.inr n, V.ref t) ∧ nameB n = true ∧ H t = some (.tup [.str r, .int g]) ∧ RowOk words L r ∧ 0 ≤ g ∧ g ≤ (L : Int)
theorem RowOk.mono {words : List Str} {L L' : Nat} {r : Str} (h : RowOk words L r) (l : L ≤ L') : RowOk words L' r := ⟨h.1, Nat.le_trans h.2 l⟩
theorem Kept.sol {H H' : Hp} {words : List Str} {L L' : Nat} {kvs : List (Key × V)} (h : Kept H words L kvs) (s : Sol H H') (l : L ≤ L') : Kept H' words L' kvs := by
  refine ⟨h.1, fun p hp => ?_⟩
  obtain ⟨n, t, r, g, e, nl, ht, ro, g0, g1⟩ := h.2 p hp
  exact ⟨n, t, r, g, e, nl, s.1 _ _ ht, ro.mono l, g0, by omega⟩
theorem MachT.sol {H H' : Hp} {m : Addr} {f : Int} {words : List Str} (h : MachT H m f words) (s : Sol H H') : MachT H' m f words := by
  obtain ⟨ws, h1, h2⟩ := h
  exact ⟨ws, s.1 _ _ h1, s.1 _ _ h2⟩
structure BenchAt (K : PySem.W.Frag) (H : Hp) (b e : Addr) (L : Nat) (words : List Str) (kvs : List (Key × V)) (dx m k : Addr) (f : Int) (es : List V) : Prop where
  at_ : H b = some (.ins (He.ga K "Bench") dx [("device", .ref m), ("kept", .ref k), ("earlier", .ref e)])
  mach : MachT H m f words
  ok : MachOk f words
  dk : H k = some (.dK kvs)
  kept : Kept H words L kvs
  ear : H e = some (.lst es)
  len : es.length ≤ L
  all : ∀ x ∈ es, ∃ k' kvs', x = V.ref k' ∧ H k' = some (.dK kvs') ∧ Kept H words L kvs'
def BenchT (K : PySem.W.Frag) (H : Hp) (b e : Addr) (L : Nat) (words : List Str) (kvs : List (Key × V)) : Prop := ∃ dx m k f es, BenchAt K H b e L words kvs dx m k f es
theorem BenchAt.ex {K : PySem.W.Frag} {H H' : Hp} {b e : Addr} {L L' : Nat} {words : List Str} {kvs : List (Key × V)} {dx m k : Addr} {f : Int} {es : List V} (h : BenchAt K H b e L words kvs dx m k f es) (x : Evl.Ex H H') (l : L ≤ L') : BenchAt K H' b e L' words kvs dx m k f es := by
  refine ⟨x _ _ h.at_, h.mach.ex x, h.ok, x _ _ h.dk, h.kept.sol (sol_ex x) l, x _ _ h.ear, Nat.le_trans h.len l, fun y hy => ?_⟩
  obtain ⟨k', kvs', e1, e2, e3⟩ := h.all y hy
  exact ⟨k', kvs', e1, x _ _ e2, e3.sol (sol_ex x) l⟩
theorem BenchT.ex {K : PySem.W.Frag} {H H' : Hp} {b e : Addr} {L L' : Nat} {words : List Str} {kvs : List (Key × V)} (h : BenchT K H b e L words kvs) (x : Evl.Ex H H') (l : L ≤ L') : BenchT K H' b e L' words kvs := by
  obtain ⟨dx, m, k, f, es, h⟩ := h
  exact ⟨dx, m, k, f, es, h.ex x l⟩
theorem BenchAt.ne {K : PySem.W.Frag} {H : Hp} {b e : Addr} {L : Nat} {words : List Str} {kvs : List (Key × V)} {dx m k : Addr} {f : Int} {es : List V} (h : BenchAt K H b e L words kvs dx m k f es) : b ≠ e := by
  rintro rfl
  have z := h.at_.symm.trans h.ear
  cases z
theorem BenchAt.soft {K : PySem.W.Frag} {H : Hp} {b e : Addr} {L : Nat} {words : List Str} {kvs : List (Key × V)} {dx m k : Addr} {f : Int} {es : List V} (h : BenchAt K H b e L words kvs dx m k f es) : Soft H [b, e] := by
  intro a ha u hu
  rcases List.mem_cons.mp ha with rfl | ha
  · rw [h.at_] at hu
    cases hu
    rfl
  · rw [List.mem_singleton.mp ha, h.ear] at hu
    cases hu
    rfl
/-- the bench turned to another dict -/
theorem BenchAt.turn {K : PySem.W.Frag} {H : Hp} {b e : Addr} {L L' : Nat} {words : List Str} {kvs kvs' : List (Key × V)} {dx m k k' : Addr} {f : Int} {es es' : List V} (h : BenchAt K H b e L words kvs dx m k f es)
    (hk : H k' = some (.dK kvs')) (hK : Kept H words L' kvs') (l : L ≤ L') (hl : es'.length ≤ L') (ha : ∀ x ∈ es', ∃ k' kvs', x = V.ref k' ∧ H k' = some (.dK kvs') ∧ Kept H words L' kvs') :
    BenchAt K (upd (upd H e (.lst es')) b (.ins (He.ga K "Bench") dx [("device", .ref m), ("kept", .ref k'), ("earlier", .ref e)])) b e L' words kvs' dx m k' f es' := by
  have fr : Fr [b, e] H (upd (upd H e (.lst es')) b (.ins (He.ga K "Bench") dx [("device", .ref m), ("kept", .ref k'), ("earlier", .ref e)])) :=
    Fr.put (Fr.put (fun a u _ h => h) (by simp)) (by simp)
  have s := fr.sol h.soft
  refine ⟨upd_same, h.mach.sol s, h.ok, s.2 _ _ hk, hK.sol s (Nat.le_refl _), ?_, hl, fun x hx => ?_⟩
  · rw [upd_ne h.ne.symm, upd_same]
  · obtain ⟨k1, kvs1, e1, e2, e3⟩ := ha x hx
    exact ⟨k1, kvs1, e1, s.2 _ _ e2, e3.sol s (Nat.le_refl _)⟩
theorem machB_of {f : Int} {words : List Str} (h : MachOk f words) : machB f words = true := by
  unfold machB
  simp only [Bool.and_eq_true, decide_eq_true_eq, List.all_eq_true]
  exact ⟨⟨h.f1, h.f4⟩, ⟨h.w1, h.w8⟩, fun w hw => h.ws w hw⟩
/-- the name looked for -/
def lookV (kvs : List (Key × V)) (n : Str) : Option V := if nameB n = true then valV kvs (Sum.inr n) else none
def namesOf (kvs : List (Key × V)) : List Str := kvs.map fun p => match p.1 with | .inr n => n | .inl _ => ""
theorem Kept.names {H : Hp} {words : List Str} {L : Nat} {kvs : List (Key × V)} (h : Kept H words L kvs) : kvs.map (·.1) = (namesOf kvs).map Sum.inr := by
  unfold namesOf
  rw [List.map_map]
  refine List.map_congr_left fun p hp => ?_
  obtain ⟨n, t, r, g, e, _⟩ := h.2 p hp
  rw [e]
  rfl
theorem nameB_len {n : Str} (h : nameB n = true) : n.length ≤ 8 := by
  unfold nameB at h
  simp only [Bool.and_eq_true, decide_eq_true_eq] at h
  exact h.2.1
theorem nameB_ok {n : Str} (h : nameB n = true) : PyData.strOk n = true := by
  unfold nameB at h
  simp only [Bool.and_eq_true, decide_eq_true_eq] at h
  refine strOk_of fun c hc => ?_
  have hz := allIn_at h.2.2 hc
  have a : ∀ c ∈ az.cps.toList, c < 0x110000 := by decide +kernel
  exact a c hz
theorem Kept.name_ok {H : Hp} {words : List Str} {L : Nat} {kvs : List (Key × V)} (h : Kept H words L kvs) : ∀ n ∈ namesOf kvs, PyData.strOk n = true := by
  intro n hn
  unfold namesOf at hn
  obtain ⟨p, hp, rfl⟩ := List.mem_map.mp hn
  obtain ⟨n, t, r, g, e, hl, _⟩ := h.2 p hp
  rw [e]
  exact nameB_ok hl
theorem Kept.name_len {H : Hp} {words : List Str} {L : Nat} {kvs : List (Key × V)} (h : Kept H words L kvs) : ∀ n ∈ namesOf kvs, n.length ≤ 8 := by
  intro n hn
  unfold namesOf at hn
  obtain ⟨p, hp, rfl⟩ := List.mem_map.mp hn
  obtain ⟨n, t, r, g, e, hl, _⟩ := h.2 p hp
  rw [e]
  exact nameB_len hl
theorem Kept.look {H : Hp} {words : List Str} {L : Nat} {kvs : List (Key × V)} (h : Kept H words L kvs) {n : Str} {v : V} (e : lookV kvs n = some v) :
    nameB n = true ∧ valV kvs (Sum.inr n) = some v ∧ ∃ t r g, v = V.ref t ∧ H t = some (.tup [.str r, .int g]) ∧ RowOk words L r ∧ 0 ≤ g ∧ g ≤ (L : Int) := by
  unfold lookV at e
  by_cases hn : nameB n = true
  · rw [if_pos hn] at e
    refine ⟨hn, e, ?_⟩
    obtain ⟨n', t, r, g, e2, _, ht, ro, g0, g1⟩ := h.2 _ (mem_valV e)
    exact ⟨t, r, g, (Prod.mk.inj e2).2, ht, ro, g0, g1⟩
  · rw [if_neg hn] at e
    cases e
end Tg

namespace Tg
open PySem PySem.Spec PyProof.Rows L2
section
variable {P : Program} {w : World} {K : PySem.W.Frag} {mg : Str → Option Value} {base : Heap}
theorem put_kept {m k e k' : Addr} : putF "kept" (V.ref k') [("device", V.ref m), ("kept", V.ref k), ("earlier", V.ref e)] = ([("device", V.ref m), ("kept", V.ref k'), ("earlier", V.ref e)] : List (Str × V)) := by
  unfold putF
  rw [if_neg (by decide +kernel)]
  unfold putF
  rw [if_pos rfl]
theorem at_device {m k e : Addr} : List.lookup ("device" : Str) [(("device" : Str), V.ref m), ("kept", V.ref k), ("earlier", V.ref e)] = some (V.ref m) := rfl
theorem at_kept {m k e : Addr} : List.lookup ("kept" : Str) [(("device" : Str), V.ref m), ("kept", V.ref k), ("earlier", V.ref e)] = some (V.ref k) := rfl
theorem at_earlier {m k e : Addr} : List.lookup ("earlier" : Str) [(("device" : Str), V.ref m), ("kept", V.ref k), ("earlier", V.ref e)] = some (V.ref e) := rfl
def spTurn (K : PySem.W.Frag) : Sp := fun vs H Q _ => ∃ (b e : Addr) (L : Nat) (words : List Str) (kvs kvs' : List (Key × V)) (k' : Addr), vs = [.ref b, .ref k'] ∧ BenchT K H b e L words kvs ∧ L ≤ 1000000 ∧ H k' = some (.dK kvs') ∧ Kept H words (L + 2000) kvs' ∧
  ∀ H', Fr [b, e] H H' → BenchT K H' b e (L + 2000) words kvs' → Q .non H'
theorem k_turn (T : Txt w K mg) : Kp P w K mg base CX0 1 (He.fAd K ("Bench", some "turn_to")) P_Bench_turn_to (spTurn K) := by
  refine Kp.of T.d_Bench_turn_to sc_Bench_turn_to bn_Bench_turn_to (fun vs H Q E h => ?_) (fun f cdv A outer s H vs Q E hr h => ?_)
  · obtain ⟨b, e, L, words, kvs, kvs', k', rfl, _⟩ := h
    rfl
  · obtain ⟨b, e, L, words, kvs, kvs', k', rfl, ⟨dx, m, k, f0, es, B⟩, hL, hk', hK, q⟩ := h
    refine ⟨_, (pss_cons (ps_expr (pe_bm PySem.F.plainAttrs_list PySem.F.slot_list_append PySem.F.type_list_append mt_append (pe_fld (pv 0) rfl) (pa_cons (pe_fld (pv 0) rfl) pa_nil)))
      (pss_one (ps_fld (pv 0) (pv 1) rfl))), ?_⟩
    have hlen := B.len
    refine ⟨_, rfl, b, _, _, _, _, rfl, B.at_, T.cl_Bench, T.na_earlier, at_earlier, .inl ⟨rfl, _, SqL.of B.ear⟩, _, rfl, b, _, _, _, _, rfl, B.at_, T.cl_Bench, T.na_kept, at_kept, ?_⟩
    refine ⟨e, es, _, rfl, rfl, B.ear, size_lt (by omega), ?_⟩
    refine ⟨_, rfl, _, rfl, b, _, dx, _, rfl, (by rw [upd_ne B.ne]; exact B.at_), T.cl_Bench, T.na_kept, (by show 3 < 1000; decide), ?_⟩
    rw [put_kept]
    refine q _ (Fr.put (Fr.put (fun a u _ h => h) (by simp)) (by simp)) ⟨dx, m, k', f0, es ++ [.ref k], B.turn hk' hK (by omega) ?_ ?_⟩
    · rw [List.length_append]
      show es.length + 1 ≤ _
      omega
    · intro x hx
      rcases List.mem_append.mp hx with hx | hx
      · obtain ⟨k1, kvs1, e1, e2, e3⟩ := B.all x hx
        exact ⟨k1, kvs1, e1, e2, e3.sol (sol_ex (Evl.Ex.refl H)) (by omega)⟩
      · rw [List.mem_singleton.mp hx]
        exact ⟨k, kvs, rfl, B.dk, B.kept.sol (sol_ex (Evl.Ex.refl H)) (by omega)⟩
def spLook (K : PySem.W.Frag) : Sp := fun vs H Q E => ∃ (b e : Addr) (L : Nat) (words : List Str) (kvs : List (Key × V)) (n : Str), vs = [.ref b, .str n] ∧ BenchT K H b e L words kvs ∧ n.length ≤ 16000000 ∧
  (∀ v H', lookV kvs n = some v → Evl.Ex H H' → Q .non H') ∧ (∀ H', lookV kvs n = none → Evl.Ex H H' → E (.ref (He.ga K "NoName")) none H')
theorem k_look (T : Txt w K mg) : Kp P w K mg base (L2.CX P w) 2 (He.fAd K ("Bench", some "look_for")) P_Bench_look_for (spLook K) := by
  have G_is_name := k_is_name (P := P) (base := base) T
  refine Kp.of T.d_Bench_look_for sc_Bench_look_for bn_Bench_look_for (fun vs H Q E h => ?_) (fun f cdv A outer s H vs Q E hr h => ?_)
  · obtain ⟨b, e, L, words, kvs, n, rfl, _⟩ := h
    rfl
  · obtain ⟨b, e, L, words, kvs, n, rfl, ⟨dx, m, k, f0, es, B⟩, hn, q1, q2⟩ := h
    have hu := hu_of hr
    refine ⟨_, (pss_one (ps_if (PW.pt (pw_or (pt_not (pt_val (pe_fn G_is_name (hr.mono (by decide)) rfl T.g_is_name pass0 (pa_cons (pv 1) pa_nil)))) (pw_or1 (pt_cmp (pc_dnotin hu (pv 1) (pe_fld (pv 0) rfl)))))) (pss_one (ps_er rfl (L2.takes_of rfl rfl rfl rfl) T.e_NoName rfl)) pss_nil)), ?_⟩
    refine ⟨_, rfl, n, rfl, hn, fun H1 ex => ?_⟩
    refine ⟨_, rfl, ?_⟩
    have B1 := B.ex ex (Nat.le_refl L)
    by_cases hb : nameB n = true
    · rw [hb]
      refine ite2 (fun z => absurd z (by simp)) (fun _ => ?_)
      refine ⟨_, rfl, _, rfl, b, _, _, _, _, rfl, B1.at_, T.cl_Bench, T.na_kept, at_kept, k, _, rfl, DGet.k (k := Sum.inr n) B1.dk, _, rfl, ?_⟩
      have el : lookV kvs n = valV kvs (Sum.inr n) := if_pos hb
      refine ite2 (fun z => ?_) (fun z => ?_)
      · refine q2 H1 ?_ ex
        rw [el]
        cases ev : valV kvs (Sum.inr n) with
        | none => rfl
        | some v => rw [ev] at z; cases z
      · cases ev : valV kvs (Sum.inr n) with
        | none => rw [ev] at z; exact absurd rfl z
        | some v => exact q1 v H1 (el.trans ev) ex
    · have hb0 : nameB n = false := by simpa using hb
      rw [hb0]
      exact iteT (q2 H1 (if_neg hb) ex)
end
end Tg

namespace Tg
open PySem PySem.Spec PyProof.Rows L2
theorem Kept.put {H : Hp} {words : List Str} {L : Nat} {kvs : List (Key × V)} {n r : Str} {t : Addr} {g : Int} (h : Kept H words L kvs) (hc : valV kvs (Sum.inr n) ≠ none ∨ kvs.length ≤ 11) (hn : nameB n = true)
    (ht : H t = some (.tup [.str r, .int g])) (ro : RowOk words L r) (g0 : 0 ≤ g) (g1 : g ≤ (L : Int)) : Kept H words L (putK kvs (Sum.inr n) (.ref t)) := by
  refine ⟨?_, fun p hp => ?_⟩
  · rcases hc with hc | hc
    · rw [len_putK_in hc]
      exact h.1
    · exact Nat.le_trans len_putK (by omega)
  · rcases mem_putK hp with ⟨e1, e2⟩ | ⟨h1, _⟩
    · exact ⟨n, t, r, g, Prod.ext e1 e2, hn, ht, ro, g0, g1⟩
    · exact h.2 p h1
theorem Kept.drop {H : Hp} {words : List Str} {L : Nat} {kvs : List (Key × V)} {k : Key} (h : Kept H words L kvs) : Kept H words L (dropK kvs k) :=
  ⟨Nat.le_trans (List.length_filter_le _ _) h.1, fun p hp => h.2 p (List.mem_filter.mp hp).1⟩
theorem Fr.none {S : List Addr} {H H' : Hp} {e : Addr} (f : Fr S H H') (hs : ∀ a ∈ S, H' a ≠ none) (h : H' e = none) : H e = none := by
  by_cases he : e ∈ S
  · exact absurd h (hs e he)
  · cases q : H e with
    | none => rfl
    | some u => rw [f e u he q] at h; cases h
section
variable {P : Program} {w : World} {K : PySem.W.Frag} {mg : Str → Option Value} {base : Heap}
def putBad (n r : Str) (words : List Str) (kvs : List (Key × V)) : Prop := nameB n = false ∨ allIn r (sg words.length) = false ∨ 200 < r.length ∨ kvs.length = 12
def spPut (K : PySem.W.Frag) : Sp := fun vs H Q E => ∃ (b e : Addr) (L : Nat) (words : List Str) (kvs : List (Key × V)) (n r : Str), vs = [.ref b, .str n, .str r] ∧ BenchT K H b e L words kvs ∧ L ≤ 1000000 ∧ n.length ≤ 16000000 ∧ r.length ≤ 16000000 ∧
  (∀ H' kvs', Fr [b, e] H H' → BenchT K H' b e (L + 2000) words kvs' → kvs'.length ≤ kvs.length + 1 → Q .non H') ∧ (∀ C ∈ (["NoName", "NoSign", "TooMany"] : List Str), ∀ H', Evl.Ex H H' → putBad n r words kvs → E (.ref (He.ga K C)) none H')
theorem k_put (T : Txt w K mg) : Kp P w K mg base (L2.CX P w) 3 (He.fAd K ("Bench", some "put")) P_Bench_put (spPut K) := by
  have G_is_name := k_is_name (P := P) (base := base) T
  have G_is_row := k_is_row (P := P) (base := base) T
  have G_Bench_turn_to := k_turn (P := P) (base := base) T
  refine Kp.of T.d_Bench_put sc_Bench_put bn_Bench_put (fun vs H Q E h => ?_) (fun f cdv A outer s H vs Q E hr h => ?_)
  · obtain ⟨b, e, L, words, kvs, n, r, rfl, _⟩ := h
    rfl
  · obtain ⟨b, e, L, words, kvs, n, r, rfl, ⟨dx, m, k, f0, es, B⟩, hL, hn, hrl, q1, q2⟩ := h
    have hu := hu_of hr
    refine ⟨_, (pss_cons (ps_if (pt_not (pt_val (pe_fn G_is_name (hr.mono (by decide)) rfl T.g_is_name pass0 (pa_cons (pv 1) pa_nil)))) (pss_one (ps_er rfl (L2.takes_of rfl rfl rfl rfl) T.e_NoName rfl)) pss_nil)
      (pss_cons (ps_if (PW.pt (pw_or (pt_not (pt_val (pe_fn G_is_row (hr.mono (by decide)) rfl T.g_is_row pass0 (pa_cons (pe_fld (pv 0) rfl) (pa_cons (pv 2) pa_nil))))) (pw_or1 (pt_cmpR op_gt (pe_callB call_len_str rfl T.f_len (by decide +kernel) (pa_cons (pv 2) pa_nil)) (pe_glob (v := .int 200) rfl (Classical.choose_spec T.c_LONGEST_ROW) ⟨_, rfl⟩) (nomark _))))) (pss_one (ps_er rfl (L2.takes_of rfl rfl rfl rfl) T.e_NoSign rfl)) pss_nil)
      (pss_cons (ps_if (PW.pt (pw_and (pt_cmp (pc_dnotin hu (pv 1) (pe_fld (pv 0) rfl))) (pw_and1 (pt_cmpR op_eq (pe_callB call_lenD rfl T.f_len (by decide +kernel) (pa_cons (pe_fld (pv 0) rfl) pa_nil)) (pe_glob (v := .int 12) rfl (Classical.choose_spec T.c_MOST_NAMES) ⟨_, rfl⟩) (nomark _))))) (pss_one (ps_er rfl (L2.takes_of rfl rfl rfl rfl) T.e_TooMany rfl)) pss_nil)
      (pss_cons (ps_set (i := 3) sc_Bench_put.nd rfl (by first | exact Or.inl rfl | exact Or.inr rfl) (pe_callTy call_dictD rfl T.f_dict (by decide +kernel) (pa_cons (pe_fld (pv 0) rfl) pa_nil)))
      (pss_cons (ps_dput hu (pv 3) (pv 1) (pe_tup (pa_cons (pv 2) (pa_cons pe_int pa_nil))) rfl)
      (pss_one (ps_expr (pe_mt (pv 0) T.cl_Bench T.m_Bench_turn_to G_Bench_turn_to (hr.mono (by decide)) pass0 (pa_cons (pv 3) pa_nil))))))))), ?_⟩
    refine ⟨_, rfl, n, rfl, hn, fun H1 ex => ⟨_, rfl, ?_⟩⟩
    have B1 := B.ex ex (Nat.le_refl L)
    refine ite2 (fun hb => q2 "NoName" (by simp) H1 ex (.inl (by simpa using hb))) (fun hb => ?_)
    have hb : nameB n = true := by simpa using hb
    refine ⟨_, rfl, b, _, _, _, _, rfl, B1.at_, T.cl_Bench, T.na_device, at_device, _, rfl, m, f0, words, r, rfl, B1.mach, B1.ok.w8, _, rfl, ?_⟩
    refine ite2 (fun hr0 => q2 "NoSign" (by simp) H1 ex (.inr (.inl (by simpa using hr0)))) (fun hr0 => ?_)
    have hr1 : allIn r (sg words.length) = true := by simpa using hr0
    refine ⟨_, rfl, _, rfl, size_of hrl, _, _, rfl, rfl, _, rfl, ?_⟩
    refine ite2 (fun h2 => q2 "NoSign" (by simp) H1 ex (.inr (.inr (.inl (by have z : 200 < (r.length : Int) := (by simpa using h2); omega))))) (fun h2 => ?_)
    have h200 : r.length ≤ 200 := by
      have : ¬ (200 < (r.length : Int)) := by simpa using h2
      omega
    have goal : (valV kvs (Sum.inr n) ≠ none ∨ kvs.length ≤ 11) → ∀ p, H1 p = none → ∀ t, upd H1 p (.dK kvs) t = none → ∀ Hx, Hx = upd (upd (upd H1 p (.dK kvs)) t (.tup [.str r, .int 0])) p (.dK (putK kvs (Sum.inr n) (.ref t))) →
        BenchT K Hx b e L words kvs ∧ Hx p = some (.dK (putK kvs (Sum.inr n) (.ref t))) ∧ Kept Hx words (L + 2000) (putK kvs (Sum.inr n) (.ref t)) ∧ ∀ H', Fr [b, e] Hx H' → Fr [b, e] H H' := by
      rintro hc p hp t ht Hx rfl
      have exx : Evl.Ex H1 (upd (upd (upd H1 p (.dK kvs)) t (.tup [.str r, .int 0])) p (.dK (putK kvs (Sum.inr n) (.ref t)))) := Evl.Ex.mut ((Evl.Ex.new hp).trans (Evl.Ex.new ht)) hp
      have htp : t ≠ p := fun z => by rw [z, upd_same] at ht; cases ht
      refine ⟨⟨dx, m, k, f0, es, B1.ex exx (Nat.le_refl L)⟩, upd_same, ?_, fun H' fr => Fr.ex_trans (ex.trans exx) fr⟩
      refine ((B1.kept.sol (sol_ex exx) (show L ≤ L + 2000 by omega))).put (g := 0) hc hb ?_ ⟨hr1, by omega⟩ (by omega) (by omega)
      rw [upd_ne htp, upd_same]
    refine ⟨_, rfl, _, rfl, b, _, _, _, _, rfl, B1.at_, T.cl_Bench, T.na_kept, at_kept, k, _, rfl, DGet.k (k := Sum.inr n) B1.dk, _, rfl, ?_⟩
    refine ite2 (fun hno => ?_) (fun hin => ?_)
    · refine ⟨_, rfl, b, _, _, _, _, rfl, B1.at_, T.cl_Bench, T.na_kept, at_kept, k, kvs, rfl, B1.dk, rfl, _, rfl, ?_⟩
      refine ite2 (fun h12 => q2 "TooMany" (by simp) H1 ex (.inr (.inr (.inr (by have z : ((kvs.length : Nat) : Int) = 12 := (by simpa using h12); omega))))) (fun h12 => ?_)
      have hc : valV kvs (Sum.inr n) ≠ none ∨ kvs.length ≤ 11 := by
        have : ¬ kvs.length = 12 := fun z => h12 (by rw [decide_eq_true_eq, z]; rfl)
        have := B.kept.1
        omega
      refine ⟨_, rfl, b, _, _, _, _, rfl, B1.at_, T.cl_Bench, T.na_kept, at_kept, k, kvs, rfl, .inl B1.dk, fun p hp => ?_⟩
      refine ⟨_, rfl, size_of (by show 2 ≤ 16000000; decide), fun t ht => ⟨_, rfl, _, rfl, p, _, rfl, DPut.k (k := Sum.inr n) (kvs := kvs) ?_ ?_, ?_⟩⟩
      · have htp : p ≠ t := fun z => by rw [← z, upd_same] at ht; cases ht
        rw [upd_ne htp, upd_same]
      · have := B1.kept.1
        exact size_lt (by omega)
      · obtain ⟨g1, g2, g3, g4⟩ := goal hc p hp t ht _ rfl
        obtain ⟨dx2, m2, k2, f2, es2, B2⟩ := id g1
        exact ⟨_, rfl, b, _, _, rfl, B2.at_, rfl, _, rfl, b, e, L, words, kvs, _, p, rfl, g1, hL, g2, g3, fun H' fr B' => q1 H' _ (g4 H' fr) B' len_putK⟩
    · have hc : valV kvs (Sum.inr n) ≠ none ∨ kvs.length ≤ 11 := .inl fun z => hin (by rw [z]; rfl)
      refine ⟨_, rfl, b, _, _, _, _, rfl, B1.at_, T.cl_Bench, T.na_kept, at_kept, k, kvs, rfl, .inl B1.dk, fun p hp => ?_⟩
      refine ⟨_, rfl, size_of (by show 2 ≤ 16000000; decide), fun t ht => ⟨_, rfl, _, rfl, p, _, rfl, DPut.k (k := Sum.inr n) (kvs := kvs) ?_ ?_, ?_⟩⟩
      · have htp : p ≠ t := fun z => by rw [← z, upd_same] at ht; cases ht
        rw [upd_ne htp, upd_same]
      · have := B1.kept.1
        exact size_lt (by omega)
      · obtain ⟨g1, g2, g3, g4⟩ := goal hc p hp t ht _ rfl
        obtain ⟨dx2, m2, k2, f2, es2, B2⟩ := id g1
        exact ⟨_, rfl, b, _, _, rfl, B2.at_, rfl, _, rfl, b, e, L, words, kvs, _, p, rfl, g1, hL, g2, g3, fun H' fr B' => q1 H' _ (g4 H' fr) B' len_putK⟩
def spRun (K : PySem.W.Frag) : Sp := fun vs H Q E => ∃ (b e : Addr) (L : Nat) (words : List Str) (kvs : List (Key × V)) (n : Str) (j : Nat), vs = [.ref b, .str n, .int (j : Int)] ∧ BenchT K H b e L words kvs ∧ L ≤ 1000000 ∧ n.length ≤ 16000000 ∧ j ≤ 200 ∧
  (∀ H' kvs' (i : Nat), Fr [b, e] H H' → BenchT K H' b e (L + 2000) words kvs' → i ≤ 200 → Q (.int (i : Int)) H') ∧ (∀ H', Evl.Ex H H' → E (.ref (He.ga K "NoName")) none H')
theorem k_run (T : Txt w K mg) : Kp P w K mg base (L2.CX P w) 4 (He.fAd K ("Bench", some "run")) P_Bench_run (spRun K) := by
  have G_Bench_look_for := k_look (P := P) (base := base) T
  have G_path := k_path (P := P) (base := base) T
  have G_Bench_turn_to := k_turn (P := P) (base := base) T
  refine Kp.of T.d_Bench_run sc_Bench_run bn_Bench_run (fun vs H Q E h => ?_) (fun f cdv A outer s H vs Q E hr h => ?_)
  · obtain ⟨b, e, L, words, kvs, n, j, rfl, _⟩ := h
    rfl
  · obtain ⟨b, e, L, words, kvs, n, j, rfl, ⟨dx, m, k, f0, es, B⟩, hL, hn, hj, q1, q2⟩ := h
    have hu := hu_of hr
    refine ⟨_, (pss_cons (ps_expr (pe_mt (pv 0) T.cl_Bench T.m_Bench_look_for G_Bench_look_for (hr.mono (by decide)) (L2.passes_call (L2.takes_of rfl rfl rfl rfl) (fun _ _ _ _ h => h)) (pa_cons (pv 1) pa_nil)))
      (pss_cons (ps_asg (pe_dget hu (pe_fld (pv 0) rfl) (pv 1) (fun _ _ => rfl)) (pg_tup rfl (pgs_cons (pg_name (i := 3) sc_Bench_run.nd rfl (by first | exact Or.inl rfl | exact Or.inr rfl)) (pgs_cons (pg_name (i := 4) sc_Bench_run.nd rfl (by first | exact Or.inl rfl | exact Or.inr rfl)) pgs_nil))))
      (pss_cons (ps_set (i := 5) sc_Bench_run.nd rfl (by first | exact Or.inl rfl | exact Or.inr rfl) (pe_fn G_path (hr.mono (by decide)) rfl T.g_path pass0 (pa_cons (pe_fld (pv 0) rfl) (pa_cons (pv 3) (pa_cons (pv 2) pa_nil)))))
      (pss_cons (ps_set (i := 6) sc_Bench_run.nd rfl (by first | exact Or.inl rfl | exact Or.inr rfl) (pe_callTy call_dictD rfl T.f_dict (by decide +kernel) (pa_cons (pe_fld (pv 0) rfl) pa_nil)))
      (pss_cons (ps_dput hu (pv 6) (pv 1) (pe_tup (pa_cons (pe_ix ix_list (pv 5) (pe_un un_neg pe_int) (fun _ _ => rfl)) (pa_cons (pe_op op_sub (pe_op op_add (pv 4) (pe_callB call_len_seq rfl T.f_len (by decide +kernel) (pa_cons (pv 5) pa_nil))) pe_int) pa_nil))) rfl)
      (pss_cons (ps_expr (pe_mt (pv 0) T.cl_Bench T.m_Bench_turn_to G_Bench_turn_to (hr.mono (by decide)) pass0 (pa_cons (pv 6) pa_nil)))
      (pss_one (ps_ret (pe_op op_sub (pe_callB call_len_seq rfl T.f_len (by decide +kernel) (pa_cons (pv 5) pa_nil)) pe_int))))))))), ?_⟩
    refine ⟨_, rfl, b, _, _, rfl, B.at_, rfl, _, rfl, b, e, L, words, kvs, n, rfl, ⟨dx, m, k, f0, es, B⟩, hn, fun v H1 el ex => ?_, fun H1 el ex => q2 H1 ex⟩
    have B1 := B.ex ex (Nat.le_refl L)
    obtain ⟨hb, ev, t, r, g, rfl, ht, ro, g0, g1⟩ := B1.kept.look el
    refine ⟨_, rfl, b, _, _, _, _, rfl, B1.at_, T.cl_Bench, T.na_kept, at_kept, _, rfl, k, .ref t, rfl, (by rw [← ev]; exact DGet.k (k := Sum.inr n) B1.dk), ?_⟩
    refine ⟨t, _, rfl, SqT.of ht, rfl, _, _, rfl, _, _, rfl, rfl, ?_⟩
    refine ⟨_, rfl, b, _, _, _, _, rfl, B1.at_, T.cl_Bench, T.na_device, at_device, _, rfl, _, rfl, m, f0, words, r, L, j, rfl, B1.mach, B1.ok, ro, by omega, by omega, fun H2 p rs y ex2 hpn hp hrs ry => ?_⟩
    have B2 := B1.ex ex2 (Nat.le_refl L)
    have hlen : ((rs ++ [y]).map V.str).length = rs.length + 1 := by simp
    refine ⟨_, rfl, b, _, _, _, _, rfl, B2.at_, T.cl_Bench, T.na_kept, at_kept, k, kvs, rfl, .inl B2.dk, fun d hd => ?_⟩
    have hpd : p ≠ d := fun z => by rw [z, hd] at hp; cases hp
    have hp3 : upd H2 d (.dK kvs) p = some (.lst ((rs ++ [y]).map V.str)) := by rw [upd_ne hpd]; exact hp
    refine ⟨_, rfl, _, rfl, p, _, -1, .str y, rfl, rfl, SqL.of hp3, (by rw [List.map_append]; exact atI_last _ _), _, rfl, _, rfl, p, _, rfl, .inl (SqL.of hp3), _, _, rfl, rfl, _, _, rfl, rfl, size_of (by show 2 ≤ 16000000; decide), fun t2 ht2 => ?_⟩
    have hdt : d ≠ t2 := fun z => by rw [← z, upd_same] at ht2; cases ht2
    refine ⟨_, rfl, _, rfl, d, _, rfl, DPut.k (k := Sum.inr n) (kvs := kvs) ?_ ?_, ?_⟩
    · rw [upd_ne hdt, upd_same]
    · have := B1.kept.1
      exact size_lt (by omega)
    · rw [hlen]
      have exx : Evl.Ex H2 (upd (upd (upd H2 d (.dK kvs)) t2 (.tup [.str y, .int (g + ((rs.length + 1 : Nat) : Int) - 1)])) d (.dK (putK kvs (Sum.inr n) (.ref t2)))) := Evl.Ex.mut ((Evl.Ex.new hd).trans (Evl.Ex.new ht2)) hd
      have B3 := B2.ex exx (Nat.le_refl L)
      have hK3 : Kept (upd (upd (upd H2 d (.dK kvs)) t2 (.tup [.str y, .int (g + ((rs.length + 1 : Nat) : Int) - 1)])) d (.dK (putK kvs (Sum.inr n) (.ref t2)))) words (L + 2000) (putK kvs (Sum.inr n) (.ref t2)) := by
        refine ((B2.kept.sol (sol_ex exx) (show L ≤ L + 2000 by omega))).put (g := g + ((rs.length + 1 : Nat) : Int) - 1) (.inl (by rw [ev]; simp)) hb ?_ (ry.mono (by omega)) (by omega) (by omega)
        rw [upd_ne hdt.symm, upd_same]
      refine ⟨_, rfl, b, _, _, rfl, B3.at_, rfl, _, rfl, b, e, L, words, kvs, _, d, rfl, ⟨dx, m, k, f0, es, B3⟩, hL, upd_same, hK3, fun H' fr B' => ?_⟩
      have hpb : p ∉ [b, e] := by
        intro z
        rcases List.mem_cons.mp z with z | z
        · rw [z, B1.at_] at hpn
          cases hpn
        · rw [List.mem_singleton.mp z, B1.ear] at hpn
          cases hpn
      have hp4 := fr p _ hpb (exx _ _ hp)
      refine ⟨_, rfl, p, _, rfl, .inl (SqL.of hp4), _, _, rfl, rfl, ?_⟩
      rw [hlen]
      have e1 : ((rs.length + 1 : Nat) : Int) - 1 = (rs.length : Int) := by omega
      show Q (.int (((rs.length + 1 : Nat) : Int) - 1)) H'
      rw [e1]
      exact q1 H' _ rs.length (Fr.ex_trans (ex.trans (ex2.trans exx)) fr) B' (by omega)
end
end Tg

namespace Tg
open PySem PySem.Spec PyProof.Rows L2
section
variable {P : Program} {w : World} {K : PySem.W.Frag} {mg : Str → Option Value} {base : Heap}
theorem put_two {m d : Addr} : putF "kept" (V.ref d) [(("device" : Str), V.ref m)] = ([("device", V.ref m), ("kept", V.ref d)] : List (Str × V)) := by
  unfold putF
  rw [if_neg (by decide +kernel)]
  rfl
theorem put_three {m d e : Addr} : putF "earlier" (V.ref e) [(("device" : Str), V.ref m), ("kept", V.ref d)] = ([("device", V.ref m), ("kept", V.ref d), ("earlier", V.ref e)] : List (Str × V)) := by
  unfold putF
  rw [if_neg (by decide +kernel)]
  unfold putF
  rw [if_neg (by decide +kernel)]
  rfl
def spDrop (K : PySem.W.Frag) : Sp := fun vs H Q E => ∃ (b e : Addr) (L : Nat) (words : List Str) (kvs : List (Key × V)) (n : Str), vs = [.ref b, .str n] ∧ BenchT K H b e L words kvs ∧ L ≤ 1000000 ∧ n.length ≤ 16000000 ∧
  (∀ H' kvs', Fr [b, e] H H' → BenchT K H' b e (L + 2000) words kvs' → Q .non H') ∧ (∀ H', Evl.Ex H H' → E (.ref (He.ga K "NoName")) none H')
theorem k_drop (T : Txt w K mg) : Kp P w K mg base (L2.CX P w) 3 (He.fAd K ("Bench", some "drop")) P_Bench_drop (spDrop K) := by
  have G_Bench_look_for := k_look (P := P) (base := base) T
  have G_Bench_turn_to := k_turn (P := P) (base := base) T
  refine Kp.of T.d_Bench_drop sc_Bench_drop bn_Bench_drop (fun vs H Q E h => ?_) (fun f cdv A outer s H vs Q E hr h => ?_)
  · obtain ⟨b, e, L, words, kvs, n, rfl, _⟩ := h
    rfl
  · obtain ⟨b, e, L, words, kvs, n, rfl, ⟨dx, m, k, f0, es, B⟩, hL, hn, q1, q2⟩ := h
    refine ⟨_, (pss_cons (ps_expr (pe_mt (pv 0) T.cl_Bench T.m_Bench_look_for G_Bench_look_for (hr.mono (by decide)) (L2.passes_call (L2.takes_of rfl rfl rfl rfl) (fun _ _ _ _ h => h)) (pa_cons (pv 1) pa_nil)))
      (pss_cons (ps_set (i := 2) sc_Bench_drop.nd rfl (by first | exact Or.inl rfl | exact Or.inr rfl) (pe_callTy call_dictD rfl T.f_dict (by decide +kernel) (pa_cons (pe_fld (pv 0) rfl) pa_nil)))
      (pss_cons (ps_expr (pe_dpop1 (pv 2) (pv 1) ⟨rfl, rfl, rfl, rfl⟩))
      (pss_one (ps_expr (pe_mt (pv 0) T.cl_Bench T.m_Bench_turn_to G_Bench_turn_to (hr.mono (by decide)) pass0 (pa_cons (pv 2) pa_nil))))))), ?_⟩
    refine ⟨_, rfl, b, _, _, rfl, B.at_, rfl, _, rfl, b, e, L, words, kvs, n, rfl, ⟨dx, m, k, f0, es, B⟩, hn, fun v H1 el ex => ?_, fun H1 el ex => q2 H1 ex⟩
    have B1 := B.ex ex (Nat.le_refl L)
    obtain ⟨hb, ev, _⟩ := B1.kept.look el
    refine ⟨_, rfl, b, _, _, _, _, rfl, B1.at_, T.cl_Bench, T.na_kept, at_kept, k, kvs, rfl, .inl B1.dk, fun d hd => ?_⟩
    refine ⟨_, rfl, d, rfl, .inl ⟨kvs, .inl upd_same⟩, _, rfl, kvs, Sum.inr n, v, upd_same, rfl, ev, ?_⟩
    have exx : Evl.Ex H1 (upd (upd H1 d (.dK kvs)) d (.dK (dropK kvs (Sum.inr n)))) := Evl.Ex.mut (Evl.Ex.new hd) hd
    have B3 := B1.ex exx (Nat.le_refl L)
    have hK3 : Kept (upd (upd H1 d (.dK kvs)) d (.dK (dropK kvs (Sum.inr n)))) words (L + 2000) (dropK kvs (Sum.inr n)) := (B1.kept.sol (sol_ex exx) (show L ≤ L + 2000 by omega)).drop
    exact ⟨_, rfl, b, _, _, rfl, B3.at_, rfl, _, rfl, b, e, L, words, kvs, _, d, rfl, ⟨dx, m, k, f0, es, B3⟩, hL, upd_same, hK3, fun H' fr B' => q1 H' _ (Fr.ex_trans (ex.trans exx) fr) B'⟩
def spUndo (K : PySem.W.Frag) : Sp := fun vs H Q E => ∃ (b e : Addr) (L : Nat) (words : List Str) (kvs : List (Key × V)), vs = [.ref b] ∧ BenchT K H b e L words kvs ∧ L ≤ 1000000 ∧
  (∀ H' kvs', Fr [b, e] H H' → BenchT K H' b e (L + 2000) words kvs' → Q .non H') ∧ (∀ H', Evl.Ex H H' → E (.ref (He.ga K "NoDeed")) none H')
theorem k_undo (T : Txt w K mg) : Kp P w K mg base (L2.CX P w) 1 (He.fAd K ("Bench", some "undo")) P_Bench_undo (spUndo K) := by
  refine Kp.of T.d_Bench_undo sc_Bench_undo bn_Bench_undo (fun vs H Q E h => ?_) (fun f cdv A outer s H vs Q E hr h => ?_)
  · obtain ⟨b, e, L, words, kvs, rfl, _⟩ := h
    rfl
  · obtain ⟨b, e, L, words, kvs, rfl, ⟨dx, m, k, f0, es, B⟩, hL, q1, q2⟩ := h
    have hu := hu_of hr
    refine ⟨_, (pss_cons (ps_if (pt_cmpR (op_eqNil (Nat.lt_of_succ_lt hu)) (pe_fld (pv 0) rfl) (pe_lst pa_nil) (nomark _)) (pss_one (ps_er rfl (L2.takes_of rfl rfl rfl rfl) T.e_NoDeed rfl)) pss_nil)
      (pss_one (ps_fld (pv 0) (pe_bm0 PySem.F.plainAttrs_list PySem.F.slot_list_pop PySem.F.type_list_pop mt_pop (pe_fld (pv 0) rfl)) rfl))), ?_⟩
    refine ⟨_, rfl, b, _, _, _, _, rfl, B.at_, T.cl_Bench, T.na_earlier, at_earlier, size_of (by show 0 ≤ 16000000; decide), fun p hp => ?_⟩
    have ex := Evl.Ex.new (o := .lst []) hp
    have B1 := B.ex ex (Nat.le_refl L)
    refine ⟨e, p, es, rfl, rfl, SqL.of B1.ear, SqL.of upd_same, _, rfl, ?_⟩
    refine ite2 (fun h0 => q2 _ ex) (fun h0 => ?_)
    have hne : es ≠ [] := fun z => h0 (by rw [z]; rfl)
    have hpos := List.length_pos_iff.mpr hne
    have hlast : es[es.length - 1]? = some (es[es.length - 1]'(by omega)) := List.getElem?_eq_getElem _
    obtain ⟨k', kvs', ek, hk', hK'⟩ := B1.all _ (List.getElem_mem (l := es) (n := es.length - 1) (by omega))
    have hlen := B1.len
    refine ⟨_, rfl, b, _, _, _, _, rfl, B1.at_, T.cl_Bench, T.na_earlier, at_earlier, .inl ⟨rfl, _, SqL.of B1.ear⟩, e, es, _, rfl, rfl, B1.ear, hlast, _, rfl, b, _, dx, _, rfl, (by rw [upd_ne B1.ne]; exact B1.at_), T.cl_Bench, T.na_kept, (by show 3 < 1000; decide), ?_⟩
    rw [ek, put_kept]
    refine q1 _ kvs' (Fr.put (Fr.put (Fr.of_ex ex) (by simp)) (by simp)) ⟨dx, m, k', f0, es.dropLast, B1.turn hk' (hK'.sol (sol_ex (Evl.Ex.refl _)) (by omega)) (by omega) ?_ ?_⟩
    · rw [List.length_dropLast]
      omega
    · intro x hx
      obtain ⟨k1, kvs1, e1, e2, e3⟩ := B1.all x (List.dropLast_subset es hx)
      exact ⟨k1, kvs1, e1, e2, e3.sol (sol_ex (Evl.Ex.refl _)) (by omega)⟩
def spNames (K : PySem.W.Frag) : Sp := fun vs H Q _ => ∃ (b e : Addr) (L : Nat) (words : List Str) (kvs : List (Key × V)), vs = [.ref b] ∧ BenchT K H b e L words kvs ∧
  ∀ ys p, ys.Perm (namesOf kvs) → sortedS ys = true → H p = none → Q (.ref p) (upd H p (.lst (ys.map V.str)))
theorem k_names (T : Txt w K mg) : Kp P w K mg base CX0 1 (He.fAd K ("Bench", some "names")) P_Bench_names (spNames K) := by
  refine Kp.of T.d_Bench_names sc_Bench_names bn_Bench_names (fun vs H Q E h => ?_) (fun f cdv A outer s H vs Q E hr h => ?_)
  · obtain ⟨b, e, L, words, kvs, rfl, _⟩ := h
    rfl
  · obtain ⟨b, e, L, words, kvs, rfl, ⟨dx, m, k, f0, es, B⟩, q⟩ := h
    refine ⟨_, (pss_one (ps_ret (pe_callB (call_sortedD rfl) rfl T.f_sorted (by decide +kernel) (pa_cons (pe_fld (pv 0) rfl) pa_nil)))), ?_⟩
    refine ⟨_, rfl, b, _, _, _, _, rfl, B.at_, T.cl_Bench, T.na_kept, at_kept, k, kvs, namesOf kvs, rfl, .inl B.dk, B.kept.names, ?_, fun ys p h1 h2 h3 => q ys p h1 h2 h3⟩
    have := B.kept.1
    unfold namesOf
    rw [List.length_map]
    omega
def spRow (K : PySem.W.Frag) (which : Str → Int → V) : Sp := fun vs H Q E => ∃ (b e : Addr) (L : Nat) (words : List Str) (kvs : List (Key × V)) (n : Str), vs = [.ref b, .str n] ∧ BenchT K H b e L words kvs ∧ n.length ≤ 16000000 ∧
  (∀ t r g H', lookV kvs n = some (.ref t) → H t = some (.tup [.str r, .int g]) → RowOk words L r → 0 ≤ g → g ≤ (L : Int) → Evl.Ex H H' → Q (which r g) H') ∧ (∀ H', lookV kvs n = none → Evl.Ex H H' → E (.ref (He.ga K "NoName")) none H')
theorem k_row (T : Txt w K mg) : Kp P w K mg base (L2.CX P w) 3 (He.fAd K ("Bench", some "row")) P_Bench_row (spRow K fun r _ => .str r) := by
  have G_Bench_look_for := k_look (P := P) (base := base) T
  refine Kp.of T.d_Bench_row sc_Bench_row bn_Bench_row (fun vs H Q E h => ?_) (fun f cdv A outer s H vs Q E hr h => ?_)
  · obtain ⟨b, e, L, words, kvs, n, rfl, _⟩ := h
    rfl
  · obtain ⟨b, e, L, words, kvs, n, rfl, ⟨dx, m, k, f0, es, B⟩, hn, q1, q2⟩ := h
    have hu := hu_of hr
    refine ⟨_, (pss_cons (ps_expr (pe_mt (pv 0) T.cl_Bench T.m_Bench_look_for G_Bench_look_for (hr.mono (by decide)) (L2.passes_call (L2.takes_of rfl rfl rfl rfl) (fun _ _ _ _ h => h)) (pa_cons (pv 1) pa_nil)))
      (pss_one (ps_ret (pe_ix ix_tup (pe_dget hu (pe_fld (pv 0) rfl) (pv 1) (fun _ _ => rfl)) pe_int (fun _ _ => rfl))))), ?_⟩
    refine ⟨_, rfl, b, _, _, rfl, B.at_, rfl, _, rfl, b, e, L, words, kvs, n, rfl, ⟨dx, m, k, f0, es, B⟩, hn, fun v H1 el ex => ?_, fun H1 el ex => q2 H1 el ex⟩
    have B1 := B.ex ex (Nat.le_refl L)
    obtain ⟨hb, ev, t, r, g, rfl, ht, ro, g0, g1⟩ := B.kept.look el
    exact ⟨_, rfl, b, _, _, _, _, rfl, B1.at_, T.cl_Bench, T.na_kept, at_kept, _, rfl, k, .ref t, rfl, (by rw [← ev]; exact DGet.k (k := Sum.inr n) B1.dk), t, _, ((0 : Nat) : Int), .str r, rfl, rfl, SqT.of (ex _ _ ht), atI_nat rfl, q1 t r g H1 el ht ro g0 g1 ex⟩
theorem k_gone (T : Txt w K mg) : Kp P w K mg base (L2.CX P w) 3 (He.fAd K ("Bench", some "gone")) P_Bench_gone (spRow K fun _ g => .int g) := by
  have G_Bench_look_for := k_look (P := P) (base := base) T
  refine Kp.of T.d_Bench_gone sc_Bench_gone bn_Bench_gone (fun vs H Q E h => ?_) (fun f cdv A outer s H vs Q E hr h => ?_)
  · obtain ⟨b, e, L, words, kvs, n, rfl, _⟩ := h
    rfl
  · obtain ⟨b, e, L, words, kvs, n, rfl, ⟨dx, m, k, f0, es, B⟩, hn, q1, q2⟩ := h
    have hu := hu_of hr
    refine ⟨_, (pss_cons (ps_expr (pe_mt (pv 0) T.cl_Bench T.m_Bench_look_for G_Bench_look_for (hr.mono (by decide)) (L2.passes_call (L2.takes_of rfl rfl rfl rfl) (fun _ _ _ _ h => h)) (pa_cons (pv 1) pa_nil)))
      (pss_one (ps_ret (pe_ix ix_tup (pe_dget hu (pe_fld (pv 0) rfl) (pv 1) (fun _ _ => rfl)) pe_int (fun _ _ => rfl))))), ?_⟩
    refine ⟨_, rfl, b, _, _, rfl, B.at_, rfl, _, rfl, b, e, L, words, kvs, n, rfl, ⟨dx, m, k, f0, es, B⟩, hn, fun v H1 el ex => ?_, fun H1 el ex => q2 H1 el ex⟩
    have B1 := B.ex ex (Nat.le_refl L)
    obtain ⟨hb, ev, t, r, g, rfl, ht, ro, g0, g1⟩ := B.kept.look el
    exact ⟨_, rfl, b, _, _, _, _, rfl, B1.at_, T.cl_Bench, T.na_kept, at_kept, _, rfl, k, .ref t, rfl, (by rw [← ev]; exact DGet.k (k := Sum.inr n) B1.dk), t, _, ((1 : Nat) : Int), .int g, rfl, rfl, SqT.of (ex _ _ ht), atI_nat rfl, q1 t r g H1 el ht ro g0 g1 ex⟩
def spInit (K : PySem.W.Frag) : Sp := fun vs H Q _ => ∃ (x m dx : Addr) (f : Int) (words : List Str), vs = [.ref x, .ref m] ∧ H x = some (.ins (He.ga K "Bench") dx []) ∧ MachT H m f words ∧ MachOk f words ∧
  ∀ H' e, Fr [x] H H' → H e = none → (∀ L, BenchT K H' x e L words []) → Q .non H'
theorem k_init (T : Txt w K mg) : Kp P w K mg base CX0 4 (He.fAd K ("Bench", some "__init__")) P_Bench_init (spInit K) := by
  have G_is_machine := k_is_machine (P := P) (base := base) T
  refine Kp.of T.d_Bench_init sc_Bench_init bn_Bench_init (fun vs H Q E h => ?_) (fun f cdv A outer s H vs Q E hr h => ?_)
  · obtain ⟨x, m, dx, f, words, rfl, _⟩ := h
    rfl
  · obtain ⟨x, m, dx, f0, words, rfl, hx, hM, ok, q⟩ := h
    refine ⟨_, (pss_cons (ps_if (pt_not (pt_val (pe_fn G_is_machine (hr.mono (by decide)) rfl T.g_is_machine pass0 (pa_cons (pv 1) pa_nil)))) (pss_one ps_never) pss_nil)
      (pss_cons (ps_fld (pv 0) (pv 1) rfl)
      (pss_cons (ps_fld (pv 0) pe_dnewK rfl)
      (pss_one (ps_fld (pv 0) (pe_lst pa_nil) rfl))))), ?_⟩
    obtain ⟨ws, hm, hws⟩ := id hM
    have w8 := ok.w8
    refine ⟨_, rfl, m, ws, f0, words, rfl, hm, hws, by omega, fun z hz => Nat.le_trans (ok.ws z hz).2 (by omega), fun H1 ex => ⟨_, rfl, ?_⟩⟩
    rw [machB_of ok]
    refine ite2 (fun z => absurd z (by simp)) (fun _ => ?_)
    -- self.device = machine
    refine ⟨_, rfl, _, rfl, x, _, dx, _, rfl, ex _ _ hx, T.cl_Bench, T.na_device, (by show 0 < 1000; decide), ?_⟩
    have f1 : Fr [x] H (upd H1 x (.ins (He.ga K "Bench") dx [("device", .ref m)])) := Fr.put (Fr.of_ex ex) (by simp)
    refine fun d hd => ?_
    have hxd : x ≠ d := fun z => by
      rw [← z] at hd
      have hd : upd H1 x _ x = none := hd
      rw [upd_same] at hd
      cases hd
    have hd0 : H d = none := f1.none (fun a ha => by rw [List.mem_singleton.mp ha, upd_same]; simp) hd
    have f2 := (f1.mut (o := .dK []) hd0).put (p := x) (o := .ins (He.ga K "Bench") dx [("device", .ref m), ("kept", .ref d)]) (by simp)
    refine ⟨_, rfl, x, _, dx, [("device", .ref m)], rfl, (by rw [upd_ne hxd]; exact upd_same), T.cl_Bench, T.na_kept, (by show 1 < 1000; decide), ?_⟩
    rw [put_two]
    refine ⟨size_of (by show 0 ≤ 16000000; decide), fun e he => ?_⟩
    have hxe : x ≠ e := fun z => by rw [← z, upd_same] at he; cases he
    have he0 : H e = none := f2.none (fun a ha => by rw [List.mem_singleton.mp ha, upd_same]; simp) he
    have f3 := (f2.mut (o := .lst []) he0).put (p := x) (o := .ins (He.ga K "Bench") dx [("device", .ref m), ("kept", .ref d), ("earlier", .ref e)]) (by simp)
    have hde : d ≠ e := fun z => by
      rw [← z, upd_ne hxd.symm, upd_same] at he
      cases he
    refine ⟨_, rfl, x, _, dx, [("device", .ref m), ("kept", .ref d)], rfl, (by rw [upd_ne hxe, upd_same]), T.cl_Bench, T.na_earlier, (by show 2 < 1000; decide), ?_⟩
    rw [put_three]
    have sol : Sol H _ := f3.sol (fun a ha u hu => by
      rw [List.mem_singleton.mp ha, hx] at hu
      cases hu
      rfl)
    refine q _ e f3 he0 (fun L => ⟨dx, m, d, f0, [], upd_same, hM.sol sol, ok, ?_, ⟨Nat.zero_le _, fun p hp => absurd hp (by simp)⟩, ?_, Nat.zero_le _, fun y hy => absurd hy (by simp)⟩)
    · rw [upd_ne hxd.symm, upd_ne hde, upd_ne hxd.symm, upd_same]
    · rw [upd_ne hxe.symm, upd_same]
end
end Tg

namespace Tg
open PySem PySem.Spec PyProof.Rows L2
theorem figs_mem {c : Nat} : c ∈ ("0123456789" : Str).cps.toList ↔ 48 ≤ c ∧ c ≤ 57 := by
  have e : ("0123456789" : Str).cps.toList = [48, 49, 50, 51, 52, 53, 54, 55, 56, 57] := by decide +kernel
  rw [e]
  simp
  omega
/-! ### the written tables -/
theorem forms_at {K : PySem.W.Frag} {w : World} {a : Addr} (T : KTab K w a [("put", 3), ("drop", 2), ("undo", 1), ("run", 3), ("row", 2), ("gone", 2), ("names", 1), ("fate", 3), ("count", 3)]) (z : Str) :
    ∃ r v, PySem.W.nsIn K a z = some r ∧ RelV v (r.getD .none) ∧ v = (match formN z with | some n => V.int (n : Int) | none => V.non) := by
  by_cases hz : z ∈ ([("put", 3), ("drop", 2), ("undo", 1), ("run", 3), ("row", 2), ("gone", 2), ("names", 1), ("fate", 3), ("count", 3)] : List (Str × Int)).map (·.1)
  · obtain ⟨q, hq, rfl⟩ := List.mem_map.mp hz
    obtain ⟨t, ht⟩ := T.at_ q hq
    refine ⟨_, .int q.2, ht, ⟨t, rfl⟩, ?_⟩
    simp only [List.mem_cons, List.not_mem_nil, or_false] at hq
    rcases hq with rfl | rfl | rfl | rfl | rfl | rfl | rfl | rfl | rfl <;> rfl
  · refine ⟨_, .non, T.no z hz, rfl, ?_⟩
    have e : formN z = none := by
      simp only [List.map_cons, List.map_nil, List.mem_cons, List.not_mem_nil, or_false, not_or] at hz
      unfold formN
      obtain ⟨h1, h2, h3, h4, h5, h6, h7, h8, h9⟩ := hz
      rw [if_neg h1, if_neg h2, if_neg h3, if_neg h4, if_neg h5, if_neg h6, if_neg h7, if_neg h8, if_neg h9]
    rw [e]
theorem bounds_at {K : PySem.W.Frag} {w : World} {a : Addr} (T : KTab K w a [("run", 200), ("fate", 400), ("count", 4)]) (z : Str) :
    (boundN z = none ∧ PySem.W.nsIn K a z = some none) ∨ ∃ m t, boundN z = some m ∧ 0 ≤ m ∧ m ≤ 400 ∧ (z = "run" → m ≤ 200) ∧ (z = "count" → m ≤ 4) ∧ PySem.W.nsIn K a z = some (some (.int m t)) := by
  by_cases hz : z ∈ ([("run", 200), ("fate", 400), ("count", 4)] : List (Str × Int)).map (·.1)
  · obtain ⟨q, hq, rfl⟩ := List.mem_map.mp hz
    obtain ⟨t, ht⟩ := T.at_ q hq
    refine .inr ⟨q.2, t, ?_⟩
    simp only [List.mem_cons, List.not_mem_nil, or_false] at hq
    rcases hq with rfl | rfl | rfl
    · exact ⟨rfl, by decide, by decide, fun _ => by decide, fun z => absurd z (by decide +kernel), ht⟩
    · exact ⟨rfl, by decide, by decide, fun z => absurd z (by decide +kernel), fun z => absurd z (by decide +kernel), ht⟩
    · exact ⟨rfl, by decide, by decide, fun z => absurd z (by decide +kernel), fun _ => by decide, ht⟩
  · refine .inl ⟨?_, T.no z hz⟩
    simp only [List.map_cons, List.map_nil, List.mem_cons, List.not_mem_nil, or_false, not_or] at hz
    unfold boundN
    obtain ⟨h1, h2, h3⟩ := hz
    rw [if_neg h1, if_neg h2, if_neg h3]
section
variable {P : Program} {w : World} {K : PySem.W.Frag} {mg : Str → Option Value} {base : Heap}
def spNumber (K : PySem.W.Frag) : Sp := fun vs H Q E => ∃ (x : Str) (most : Int), vs = [.str x, .int most] ∧ x.length ≤ 5000 ∧ (numB x most = true → ∀ k : Nat, (k : Int) ≤ most → Q (.int (k : Int)) H) ∧ (numB x most = false → E (.ref (He.ga K "NoRow")) none H)
theorem k_number (T : Txt w K mg) : Kp P w K mg base (L2.CX P w) 1 (He.fAd K ("number_in", none)) P_number_in (spNumber K) := by
  refine Kp.of T.d_number_in sc_number_in bn_number_in (fun vs H Q E h => ?_) (fun f cdv A outer s H vs Q E hr h => ?_)
  · obtain ⟨x, most, rfl, _⟩ := h
    rfl
  · obtain ⟨x, most, rfl, hl, q1, q2⟩ := h
    refine ⟨_, (pss_cons (ps_if (PW.pt (pw_or (pt_not (pt_chain op_le op_le pe_int (pe_callB call_len_str rfl T.f_len (by decide +kernel) (pa_cons (pv 0) pa_nil)) (pe_glob (v := .int 4) rfl (Classical.choose_spec T.c_MOST_FIGURES) ⟨_, rfl⟩))) (pw_or1 (PW.pt (pw_and (pt_cmpR op_eq (pe_ix ix_str (pv 0) pe_int (fun _ _ => rfl)) pe_str (nomark _)) (pw_and1 (pt_cmpR op_ne (pv 0) pe_str (nomark _)))))))) (pss_one (ps_er rfl (L2.takes_of rfl rfl rfl rfl) T.e_NoRow rfl)) pss_nil)
      (pss_cons (ps_for (L2.passes_of rfl) rfl (pi_str (pv 0)) (pg_name (i := 2) sc_number_in.nd rfl (by first | exact Or.inl rfl | exact Or.inr rfl)) (pss_one (ps_if (pt_cmpR op_notIn_sign (pv 2) (pe_glob (v := .str "0123456789") rfl (Classical.choose_spec T.c_FIGURES) ⟨_, rfl⟩) (by rfl)) (pss_one (ps_er rfl (L2.takes_of rfl rfl rfl rfl) T.e_NoRow rfl)) pss_nil)))
      (pss_cons (ps_if (pt_cmpR op_gt (pe_callTy call_int_str rfl T.f_int (by decide +kernel) (pa_cons (pv 0) pa_nil)) (pv 1) (nomark _)) (pss_one (ps_er rfl (L2.takes_of rfl rfl rfl rfl) T.e_NoRow rfl)) pss_nil)
      (pss_one (ps_ret (pe_callTy call_int_str rfl T.f_int (by decide +kernel) (pa_cons (pv 0) pa_nil))))))), ?_⟩
    refine ⟨_, rfl, _, rfl, size_of (by omega), 1, _, rfl, rfl, _, rfl, ?_⟩
    by_cases h1 : 1 ≤ x.length
    · rw [if_pos (by rw [decide_eq_true_eq]; omega)]
      refine ⟨_, 4, rfl, rfl, _, rfl, ?_⟩
      by_cases h4 : x.length ≤ 4
      · have e4 : decide (((x.length : Nat) : Int) ≤ 4) = true := by rw [decide_eq_true_eq]; omega
        rw [e4]
        refine iteF ?_
        obtain ⟨c0, hc⟩ : ∃ c, x.cps.toList[0]? = some c := ⟨_, List.getElem?_eq_getElem (by rw [len_list]; omega)⟩
        have hhead : x.cps.toList.head? = some c0 := by rw [List.head?_eq_getElem?]; exact hc
        refine ⟨_, rfl, x, ((0 : Nat) : Int), _, rfl, rfl, size_of (by omega), atI_nat hc, rfl, _, rfl, ?_⟩
        refine ite2 (fun hh => ?_) (fun hh => ?_)
        · have hc0 : c0 = 48 := by
            have z : (⟨#[c0]⟩ : Str) = "0" := by simpa using hh
            have z2 := congrArg (fun s : Str => s.cps.toList) z
            have z3 : [c0] = [48] := z2.trans zero_list
            exact (List.cons.inj z3).1
          refine ⟨_, rfl, rfl, _, rfl, ?_⟩
          refine ite2 (fun hn => q2 ?_) (fun hn => ?_)
          · have hx : ¬ x = "0" := fun z => by rw [z] at hn; simp at hn
            unfold numB
            rw [hhead, hc0, decide_eq_false hx]
            simp
          · have hx : x = "0" := by simpa using hn
            have hz : (decide (x.cps.toList.head? ≠ some 48) || decide (x = "0")) = true := by rw [decide_eq_true hx, Bool.or_true]
            refine ⟨_, rfl, x, rfl, for_it walk_str (fun i σ H' => H' = H ∧ (∃ v, σ = [some (.str x), some (.int most), v]) ∧ ∀ c ∈ x.cps.toList.take i, 48 ≤ c ∧ c ≤ 57) ⟨rfl, ⟨none, rfl⟩, fun c hc => by simp at hc⟩ (fun _ _ _ _ _ => trivial) ?_ ?_⟩
            · rintro i y σ H1 H2 hi ⟨rfl, ⟨v, rfl⟩, hp⟩ ⟨rfl, c, hc, rfl⟩
              refine ⟨_, rfl, c, _, rfl, rfl, _, rfl, ?_⟩
              have hcl : x.cps.toList[i]? = some c := by simpa using hc
              refine ite2 (fun hno => ?_) (fun hin => ?_)
              · refine q2 ?_
                have hno : ¬ (48 ≤ c ∧ c ≤ 57) := fun z => by
                  rw [decide_eq_true (figs_mem.mpr z)] at hno
                  cases hno
                have ea : x.cps.toList.all (fun c => decide (48 ≤ c ∧ c ≤ 57)) = false := by
                  rw [List.all_eq_false]
                  exact ⟨c, List.mem_of_getElem? hcl, by rw [decide_eq_false hno]; simp⟩
                unfold numB
                rw [ea]
                simp
              · refine ⟨rfl, ⟨_, rfl⟩, fun d hd => ?_⟩
                have hyes : 48 ≤ c ∧ c ≤ 57 := by
                  by_cases z : c ∈ ("0123456789" : Str).cps.toList
                  · exact figs_mem.mp z
                  · exact absurd (by rw [decide_eq_false z]; rfl) hin
                rw [List.take_succ, hcl] at hd
                rcases List.mem_append.mp hd with h1 | h1
                · exact hp d h1
                · simp at h1
                  rw [h1]
                  exact hyes
            · rintro σ H1 ⟨rfl, ⟨v, rfl⟩, hp⟩
              have ea : x.cps.toList.all (fun c => decide (48 ≤ c ∧ c ≤ 57)) = true := by
                rw [List.all_eq_true]
                intro c hc
                exact decide_eq_true (hp c (by rw [List.take_of_length_le (by simp)]; exact hc))
              have en : numB x most = decide (((NumText.digitsVal x.cps.toList : Nat) : Int) ≤ most) := by
                unfold numB
                rw [decide_eq_true h1, decide_eq_true h4, hz, ea]
                rfl
              refine ⟨_, rfl, x, _, rfl, num_int h1 h4 ea, by omega, _, rfl, _, _, rfl, rfl, _, rfl, ?_⟩
              refine ite2 (fun hgt => q2 ?_) (fun hle => ?_)
              · rw [en, decide_eq_false_iff_not]
                have := of_decide_eq_true hgt
                omega
              · have hle2 : ((NumText.digitsVal x.cps.toList : Nat) : Int) ≤ most := by
                  have : ¬ (((NumText.digitsVal x.cps.toList : Nat) : Int) > most) := fun z => hle (decide_eq_true z)
                  omega
                exact ⟨_, rfl, x, _, rfl, num_int h1 h4 ea, by omega, q1 (by rw [en]; exact decide_eq_true hle2) _ hle2⟩
        · have hc0 : c0 ≠ 48 := fun z => hh (by subst z; decide +kernel)
          have hz : (decide (x.cps.toList.head? ≠ some 48) || decide (x = "0")) = true := by
            rw [hhead, decide_eq_true (show (some c0 ≠ some 48) from fun z => hc0 (Option.some.inj z)), Bool.true_or]
          refine ⟨_, rfl, x, rfl, for_it walk_str (fun i σ H' => H' = H ∧ (∃ v, σ = [some (.str x), some (.int most), v]) ∧ ∀ c ∈ x.cps.toList.take i, 48 ≤ c ∧ c ≤ 57) ⟨rfl, ⟨none, rfl⟩, fun c hc => by simp at hc⟩ (fun _ _ _ _ _ => trivial) ?_ ?_⟩
          · rintro i y σ H1 H2 hi ⟨rfl, ⟨v, rfl⟩, hp⟩ ⟨rfl, c, hc, rfl⟩
            refine ⟨_, rfl, c, _, rfl, rfl, _, rfl, ?_⟩
            have hcl : x.cps.toList[i]? = some c := by simpa using hc
            refine ite2 (fun hno => ?_) (fun hin => ?_)
            · refine q2 ?_
              have hno : ¬ (48 ≤ c ∧ c ≤ 57) := fun z => by
                rw [decide_eq_true (figs_mem.mpr z)] at hno
                cases hno
              have ea : x.cps.toList.all (fun c => decide (48 ≤ c ∧ c ≤ 57)) = false := by
                rw [List.all_eq_false]
                exact ⟨c, List.mem_of_getElem? hcl, by rw [decide_eq_false hno]; simp⟩
              unfold numB
              rw [ea]
              simp
            · refine ⟨rfl, ⟨_, rfl⟩, fun d hd => ?_⟩
              have hyes : 48 ≤ c ∧ c ≤ 57 := by
                by_cases z : c ∈ ("0123456789" : Str).cps.toList
                · exact figs_mem.mp z
                · exact absurd (by rw [decide_eq_false z]; rfl) hin
              rw [List.take_succ, hcl] at hd
              rcases List.mem_append.mp hd with h1 | h1
              · exact hp d h1
              · simp at h1
                rw [h1]
                exact hyes
          · rintro σ H1 ⟨rfl, ⟨v, rfl⟩, hp⟩
            have ea : x.cps.toList.all (fun c => decide (48 ≤ c ∧ c ≤ 57)) = true := by
              rw [List.all_eq_true]
              intro c hc
              exact decide_eq_true (hp c (by rw [List.take_of_length_le (by simp)]; exact hc))
            have en : numB x most = decide (((NumText.digitsVal x.cps.toList : Nat) : Int) ≤ most) := by
              unfold numB
              rw [decide_eq_true h1, decide_eq_true h4, hz, ea]
              rfl
            refine ⟨_, rfl, x, _, rfl, num_int h1 h4 ea, by omega, _, rfl, _, _, rfl, rfl, _, rfl, ?_⟩
            refine ite2 (fun hgt => q2 ?_) (fun hle => ?_)
            · rw [en, decide_eq_false_iff_not]
              have := of_decide_eq_true hgt
              omega
            · have hle2 : ((NumText.digitsVal x.cps.toList : Nat) : Int) ≤ most := by
                have : ¬ (((NumText.digitsVal x.cps.toList : Nat) : Int) > most) := fun z => hle (decide_eq_true z)
                omega
              exact ⟨_, rfl, x, _, rfl, num_int h1 h4 ea, by omega, q1 (by rw [en]; exact decide_eq_true hle2) _ hle2⟩
      · have e4 : decide (((x.length : Nat) : Int) ≤ 4) = false := by rw [decide_eq_false_iff_not]; omega
        rw [e4]
        refine iteT (q2 ?_)
        unfold numB
        rw [decide_eq_false h4]
        simp
    · rw [if_neg (by rw [decide_eq_true_eq]; omega)]
      refine ⟨_, rfl, iteT (q2 ?_)⟩
      unfold numB
      rw [decide_eq_false h1]
      simp
def spLookAt (K : PySem.W.Frag) : Sp := fun vs H Q E => ∃ (p : Addr) (ws : List Str), vs = [.ref p] ∧ H p = some (.lst (ws.map V.str)) ∧ ws ≠ [] ∧ (lookW ws = true → Q .non H) ∧ (lookW ws = false → E (.ref (He.ga K "NoRow")) none H)
theorem k_look_at (T : Txt w K mg) : Kp P w K mg base (L2.CX P w) 1 (He.fAd K ("look_at_words", none)) P_look_at_words (spLookAt K) := by
  refine Kp.of T.d_look_at_words sc_look_at_words bn_look_at_words (fun vs H Q E h => ?_) (fun f cdv A outer s H vs Q E hr h => ?_)
  · obtain ⟨p, ws, rfl, _⟩ := h
    rfl
  · obtain ⟨p, ws, rfl, hp, hne, q1, q2⟩ := h
    obtain ⟨es, n, D⟩ := T.forms.d
    refine ⟨_, (pss_one (ps_if (PW.pt (pw_or (pt_cmpR op_in_seq pe_str (pv 0) (by rfl)) (pw_or1 (pt_cmpR op_ne (pe_kget (pe_glob (v := .ref (He.ga K "FORMS")) rfl T.g_FORMS rfl) (pe_ix ix_list (pv 0) pe_int (fun _ _ => rfl)) ⟨rfl, rfl, rfl, rfl⟩) (pe_callB call_len_seq rfl T.f_len (by decide +kernel) (pa_cons (pv 0) pa_nil)) (nomark _))))) (pss_one (ps_er rfl (L2.takes_of rfl rfl rfl rfl) T.e_NoRow rfl)) pss_nil)), ?_⟩
    refine ⟨_, rfl, p, _, rfl, .inl (SqL.of hp), rfl, flat_strs _, _, rfl, ?_⟩
    refine ite2 (fun h0 => ?_) (fun h0 => ?_)
    · have h0 : inV (.str "") (ws.map V.str) = true := h0
      rw [inV_strs] at h0
      refine q2 ?_
      unfold lookW
      rw [decide_eq_false (not_not_intro (of_decide_eq_true h0))]
      rfl
    · have h0 : ¬ inV (.str "") (ws.map V.str) = true := h0
      rw [inV_strs, decide_eq_true_eq] at h0
      cases ws with
      | nil => exact absurd rfl hne
      | cons a r =>
        obtain ⟨o, v, hns, hv, ev⟩ := forms_at T.forms a
        have el : lookW (a :: r) = decide (formN a = some (r.length + 1)) := by
          unfold lookW
          rw [decide_eq_true h0]
          rfl
        have hl : (((a :: r).map V.str).length : Int) = ((r.length + 1 : Nat) : Int) := by simp
        refine ⟨_, es, n, rfl, D, _, rfl, p, _, ((0 : Nat) : Int), .str a, rfl, rfl, SqL.of hp, atI_nat rfl, a, o, v, rfl, hns, hv, _, rfl, p, _, rfl, .inl (SqL.of hp), ?_⟩
        subst ev
        cases ef : formN a with
        | none =>
          refine ⟨rfl, _, rfl, iteT (q2 ?_)⟩
          rw [el, ef]
          rfl
        | some k =>
          refine ⟨rfl, _, rfl, ?_⟩
          rw [hl]
          refine ite2 (fun hb => q2 ?_) (fun hb => q1 ?_)
          · rw [el, ef, decide_eq_false_iff_not]
            intro z
            have z := Option.some.inj z
            rw [z] at hb
            simp at hb
          · rw [el, ef, decide_eq_true_eq]
            have hb : ((k : Nat) : Int) = ((r.length + 1 : Nat) : Int) := by simpa using hb
            rw [Int.ofNat.inj hb]
theorem k_desk_init (T : Txt w K mg) : Kp P w K mg base CX0 1 (He.fAd K ("Desk", some "__init__")) P_Desk_init (fun vs H Q _ => ∃ x dx, vs = [.ref x] ∧ H x = some (.ins (He.ga K "Desk") dx []) ∧ Q .non (upd H x (.ins (He.ga K "Desk") dx [("own", .non)]))) := by
  refine Kp.of T.d_Desk_init sc_Desk_init bn_Desk_init (fun vs H Q E h => ?_) (fun f cdv A outer s H vs Q E hr h => ?_)
  · obtain ⟨x, dx, rfl, _⟩ := h
    rfl
  · obtain ⟨x, dx, rfl, hx, q⟩ := h
    refine ⟨_, (pss_one (ps_fld (pv 0) pe_non rfl)), ?_⟩
    exact ⟨_, rfl, x, _, dx, _, rfl, hx, T.cl_Desk, T.na_own, (by show 0 < 1000; decide), q⟩
theorem put_own {a v : V} : putF "own" v [(("own" : Str), a)] = ([("own", v)] : List (Str × V)) := by
  unfold putF
  rw [if_pos rfl]
def spBegin (K : PySem.W.Frag) : Sp := fun vs H Q E => ∃ (d ddx : Addr) (o : V) (t : Str), vs = [.ref d, .str t] ∧ H d = some (.ins (He.ga K "Desk") ddx [("own", o)]) ∧ t.length ≤ 5000 ∧
  (machW (wordsOf t) = true → ∀ H' b e words, words = (wordsOf t).tail.map readW → Fr [d] H H' → H' d = some (.ins (He.ga K "Desk") ddx [("own", .ref b)]) → (∀ L, BenchT K H' b e L words []) → H b = none → H e = none → Q (.str "ok") H') ∧ (machW (wordsOf t) = false → ∀ H', Evl.Ex H H' → E (.ref (He.ga K "NoRow")) none H')
theorem k_begin (T : Txt w K mg) : Kp P w K mg base (L2.CX P w) 6 (He.fAd K ("Desk", some "begin")) P_Desk_begin (spBegin K) := by
  have G_read := k_read (P := P) (base := base) T
  have G_Bench_init := k_init (P := P) (base := base) T
  refine Kp.of T.d_Desk_begin sc_Desk_begin bn_Desk_begin (fun vs H Q E h => ?_) (fun f cdv A outer s H vs Q E hr h => ?_)
  · obtain ⟨d, ddx, o, t, rfl, _⟩ := h
    rfl
  · obtain ⟨d, ddx, o, t, rfl, hd, hl, q1, q2⟩ := h
    refine ⟨_, (pss_cons (ps_set (i := 2) sc_Desk_begin.nd rfl (by first | exact Or.inl rfl | exact Or.inr rfl) pe_non)
      (pss_cons (L2H.ps_try_onlyX (x := "NoText") (c := .ref (He.ga K "NoText")) rfl rfl ⟨rfl, by decide, .inl T.g_NoText⟩ (fun hd => L2H.passesAt_of rfl hd) (L2.takes_of rfl rfl rfl rfl) (fun W pn xe tkN tkP own => pss_one (ps_set (i := 2) sc_Desk_begin.nd rfl (by first | exact Or.inl rfl | exact Or.inr rfl) (pe_fnS G_read (hr.mono (by decide)) rfl T.g_read (fun σ => L2N.passAt tkN σ) (pa_cons (pv 1) pa_nil)))) (fun a oe cls d pn hz hf tk hot => pss_one (ps_erH hot tk T.e_NoRow rfl)))
      (pss_cons (ps_fld (pv 0) (pe_mk (M := f) T.mk_Bench G_Bench_init (hr.mono (by decide)) rfl T.g_Bench pass0 (pa_cons (pv 2) pa_nil)) rfl)
      (pss_one (ps_ret pe_str))))), ?_⟩
    refine ⟨_, rfl, t, rfl, hl, fun hb H1 m f0 words ex hM ok hw => ?_, fun hb H1 ex => ⟨true, T.t_NoText, fun _ a ha => q2 hb H1 ex, fun z => nomatch z⟩⟩
    refine ⟨_, rfl, fun x dx hx hdx hne => ?_⟩
    have fr0 : Evl.Ex H1 (upd (upd H1 dx (.own x)) x (.ins (He.ga K "Bench") dx [])) :=
      (Evl.Ex.new hdx).trans (Evl.Ex.new (by rw [upd_ne hne.symm]; exact hx))
    refine ⟨x, m, dx, f0, words, rfl, upd_same, hM.ex fr0, ok, fun H2 e fr he hB => ⟨rfl, ?_⟩⟩
    have fr2 : Fr [x] H H2 := Fr.ex_trans (ex.trans fr0) fr
    have hdx0 : d ≠ x := fun z => by
      have := ex _ _ hd
      rw [z, hx] at this
      cases this
    have hd2 : H2 d = some (.ins (He.ga K "Desk") ddx [("own", o)]) := fr2 _ _ (by simpa using hdx0) hd
    refine ⟨_, rfl, d, _, ddx, _, rfl, hd2, T.cl_Desk, T.na_own, (by show 1 < 1000; decide), ?_⟩
    rw [put_own]
    have none0 : ∀ a, H1 a = none → H a = none := fun a h => by
      cases q : H a with
      | none => rfl
      | some u => rw [ex _ _ q] at h; cases h
    have hx0 := none0 x hx
    have frd : Fr [d] H (upd H2 d (.ins (He.ga K "Desk") ddx [("own", .ref x)])) := fun a u n h => by
      have ad : a ≠ d := by simpa using n
      have ax : a ≠ x := fun z => by rw [z, hx0] at h; cases h
      rw [upd_ne ad]
      exact fr2 a u (by simpa using ax) h
    have he0 : H e = none := none0 e (Fr.none (S := []) (fun a u _ h => fr0 a u h) (fun a ha => absurd ha (by simp)) he)
    refine q1 hb _ x e words hw frd upd_same (fun L => ?_) hx0 he0
    obtain ⟨dx1, m1, k1, f1, es1, B⟩ := hB L
    have sol : Sol H2 (upd H2 d (.ins (He.ga K "Desk") ddx [("own", .ref x)])) := Fr.sol (S := [d]) (Fr.put (fun a u _ h => h) (by simp)) (fun a ha u hu => by
      rw [List.mem_singleton.mp ha, hd2] at hu
      cases hu
      rfl)
    refine ⟨dx1, m1, k1, f1, es1, by rw [upd_ne hdx0.symm]; exact B.at_, B.mach.sol sol, B.ok, sol.2 _ _ B.dk, B.kept.sol sol (Nat.le_refl _), ?_, B.len, fun y hy => ?_⟩
    · have hed : e ≠ d := fun z => by
        have := B.ear
        rw [z, hd2] at this
        cases this
      rw [upd_ne hed]
      exact B.ear
    · obtain ⟨k', kvs', e1, e2, e3⟩ := B.all y hy
      exact ⟨k', kvs', e1, sol.2 _ _ e2, e3.sol sol (Nat.le_refl _)⟩
end
end Tg

namespace Tg
open PySem PySem.Spec PyProof.Rows L2
/-! ### what is answered -/
def TextOk (s : Str) : Prop := s.length ≤ 6000000 ∧ PyData.strOk s = true
def isQ (ws : List Str) : Prop := ws.getD 0 "" = "names" ∨ ws.getD 0 "" = "row" ∨ ws.getD 0 "" = "gone"
def QAns (H : Hp) (kvs : List (Key × V)) (ws : List Str) (s : Str) : Prop :=
  (ws.getD 0 "" = "names" ∧ ∃ ys, ys.Perm (namesOf kvs) ∧ sortedS ys = true ∧ s = (if Txt.join " " ys = "" then ("none" : Str) else Txt.join " " ys)) ∨
  (ws.getD 0 "" = "row" ∧ ∃ t r g, lookV kvs (ws.getD 1 "") = some (.ref t) ∧ H t = some (.tup [.str r, .int g]) ∧ s = showW r) ∨
  (ws.getD 0 "" = "gone" ∧ ∃ t r g, lookV kvs (ws.getD 1 "") = some (.ref t) ∧ H t = some (.tup [.str r, .int g]) ∧ s = Str.ofString (toString g))
def QErr (kvs : List (Key × V)) (ws : List Str) : Prop := (ws.getD 0 "" = "row" ∨ ws.getD 0 "" = "gone") ∧ lookV kvs (ws.getD 1 "") = none
theorem sum_le {k : Nat} : ∀ {l : List Str}, (∀ x ∈ l, x.length ≤ k) → (l.map (·.length)).sum ≤ l.length * k
  | [], _ => by simp
  | a :: r, h => by
    have h1 := h a (List.mem_cons_self ..)
    have h2 := sum_le (l := r) fun x hx => h x (List.mem_cons_of_mem _ hx)
    rw [List.map_cons, List.sum_cons, List.length_cons, Nat.add_mul]
    omega
theorem join_len {y : Str} : ∀ l : List Str, (Txt.join y l).length ≤ (l.map (·.length)).sum + l.length * y.length := by
  intro l
  rw [TL.join_eq]
  induction l with
  | nil =>
    exact Nat.zero_le _
  | cons a r ih =>
    cases r with
    | nil =>
      show a.length ≤ _
      simp
    | cons b t =>
      show (a ++ y ++ Str.join y (b :: t)).length ≤ _
      rw [len_app, len_app, List.map_cons, List.sum_cons, List.length_cons, Nat.add_mul]
      omega
theorem num_len {i : Int} (h0 : 0 ≤ i) (h1 : i < 10 ^ 18) : (Str.ofString (toString i)).length ≤ 18 := toString_length_le h0 (by decide) h1
theorem num_ok {i : Int} (h0 : 0 ≤ i) (h1 : i < 10 ^ 18) : TextOk (Str.ofString (toString i)) := ⟨Nat.le_trans (num_len h0 h1) (by decide), strOk_num h0⟩
theorem show_ok {r : Str} (h : r.length ≤ 6000000) (h2 : PyData.strOk r = true) : TextOk (showW r) := by
  unfold showW
  split
  · exact ⟨by decide +kernel, by decide +kernel⟩
  · exact ⟨h, h2⟩
theorem join_ok {ys : List Str} (h : ∀ y ∈ ys, PyData.strOk y = true) : PyData.strOk (Txt.join " " ys) = true := by
  rw [TL.join_eq]
  induction ys with
  | nil => decide +kernel
  | cons a r ih =>
    cases r with
    | nil => exact h a (List.mem_cons_self ..)
    | cons b t => exact strOk_app (strOk_app (h a (List.mem_cons_self ..)) (by decide +kernel)) (ih fun y hy => h y (List.mem_cons_of_mem _ hy))
theorem log_small {i : Int} (h0 : -(10 ^ 18) ≤ i) (h1 : i < 10 ^ 18) : i.natAbs.log2 < 1920 := by
  have : i.natAbs ≤ 10 ^ 18 := by omega
  by_cases hz : i.natAbs = 0
  · rw [hz]; decide
  · have h2 : i.natAbs < 2 ^ 60 := by
      have : (10 : Nat) ^ 18 < 2 ^ 60 := by decide
      omega
    have := (Nat.log2_lt hz).mpr h2
    omega
section
variable {P : Program} {w : World} {K : PySem.W.Frag} {mg : Str → Option Value} {base : Heap}
theorem at_own {v : V} : List.lookup ("own" : Str) [(("own" : Str), v)] = some v := rfl
theorem word_at {K : PySem.W.Frag} {H : Hp} {p : Addr} {ws : List Str} {i : Nat} (h : H p = some (.lst (ws.map V.str))) (hi : i < ws.length) : atI (ws.map V.str) (i : Int) = some (.str (ws.getD i "")) := by
  refine atI_nat ?_
  rw [List.getElem?_map, List.getElem?_eq_getElem hi, List.getD_eq_getElem?_getD, List.getElem?_eq_getElem hi]
  rfl
theorem mem_more {C : Str} (h : C ∈ (["NoName", "NoSign", "TooMany"] : List Str)) : C ∈ (["NoName", "NoSign", "TooMany", "NoDeed"] : List Str) := by
  show C ∈ (["NoName", "NoSign", "TooMany"] : List Str) ++ (["NoDeed"] : List Str)
  exact List.mem_append_left _ h
def spDone (K : PySem.W.Frag) : Sp := fun vs H Q E => ∃ (d ddx p b e : Addr) (L : Nat) (words : List Str) (kvs : List (Key × V)) (ws : List Str), vs = [.ref d, .ref p] ∧ H d = some (.ins (He.ga K "Desk") ddx [("own", .ref b)]) ∧ H p = some (.lst (ws.map V.str)) ∧
  BenchT K H b e L words kvs ∧ L ≤ 1000000 ∧ lookW ws = true ∧ (∀ x ∈ ws, x.length ≤ 5000) ∧ (ws.getD 0 "" = "put" ∨ ws.getD 0 "" = "drop" ∨ ws.getD 0 "" = "undo") ∧
  (∀ H' kvs', Fr [b, e] H H' → BenchT K H' b e (L + 2000) words kvs' → (ws.getD 0 "" = "put" → kvs'.length ≤ kvs.length + 1) → Q .non H') ∧ (∀ C ∈ (["NoName", "NoSign", "TooMany", "NoDeed"] : List Str), ∀ H', Evl.Ex H H' → (ws.getD 0 "" = "put" → putBad (ws.getD 1 "") (readW (ws.getD 2 "")) words kvs) → E (.ref (He.ga K C)) none H')
theorem look_len {ws : List Str} {n : Nat} (h : lookW ws = true) (e : formN (ws.getD 0 "") = some n) : ws.length = n := by
  unfold lookW at h
  rw [Bool.and_eq_true, decide_eq_true_eq, decide_eq_true_eq] at h
  have z := h.2
  rw [e] at z
  exact (Option.some.inj z).symm
theorem get_mem {ws : List Str} {i : Nat} (hi : i < ws.length) : ws.getD i "" ∈ ws := by
  rw [List.getD_eq_getElem?_getD, List.getElem?_eq_getElem hi]
  exact List.getElem_mem hi
theorem k_done (T : Txt w K mg) : Kp P w K mg base (L2.CX P w) 4 (He.fAd K ("Desk", some "done")) P_Desk_done (spDone K) := by
  have G_Bench_put := k_put (P := P) (base := base) T
  have G_Bench_drop := k_drop (P := P) (base := base) T
  have G_Bench_undo := k_undo (P := P) (base := base) T
  have G_read_word := k_read_word (P := P) (base := base) T
  refine Kp.of T.d_Desk_done sc_Desk_done bn_Desk_done (fun vs H Q E h => ?_) (fun f cdv A outer s H vs Q E hr h => ?_)
  · obtain ⟨d, ddx, p, b, e, L, words, kvs, ws, rfl, _⟩ := h
    rfl
  · obtain ⟨d, ddx, p, b, e, L, words, kvs, ws, rfl, hd, hp, hB, hL, hlook, hws, hc, q1, q2⟩ := h
    refine ⟨_, (pss_one (ps_if (pt_cmpR op_eq (pe_ix ix_list (pv 1) pe_int (fun _ _ => rfl)) pe_str (nomark _)) (pss_one (ps_expr (pe_mt (pe_fld (pv 0) rfl) T.cl_Bench T.m_Bench_put G_Bench_put (hr.mono (by decide)) (L2.passes_call (L2.takes_of rfl rfl rfl rfl) (fun _ _ _ _ h => h)) (pa_cons (pe_ix ix_list (pv 1) pe_int (fun _ _ => rfl)) (pa_cons (pe_fn G_read_word (hr.mono (by decide)) rfl T.g_read_word pass0 (pa_cons (pe_ix ix_list (pv 1) pe_int (fun _ _ => rfl)) pa_nil)) pa_nil))))) (pss_one (ps_if (pt_cmpR op_eq (pe_ix ix_list (pv 1) pe_int (fun _ _ => rfl)) pe_str (nomark _)) (pss_one (ps_expr (pe_mt (pe_fld (pv 0) rfl) T.cl_Bench T.m_Bench_drop G_Bench_drop (hr.mono (by decide)) (L2.passes_call (L2.takes_of rfl rfl rfl rfl) (fun _ _ _ _ h => h)) (pa_cons (pe_ix ix_list (pv 1) pe_int (fun _ _ => rfl)) pa_nil)))) (pss_one (ps_expr (pe_mt0 (pe_fld (pv 0) rfl) T.cl_Bench T.m_Bench_undo G_Bench_undo (hr.mono (by decide)) (L2.passes_call (L2.takes_of rfl rfl rfl rfl) (fun _ _ _ _ h => h))))))))), ?_⟩
    have hpos : 0 < ws.length := by
      rcases hc with h | h | h
      · rw [look_len hlook (n := 3) (by rw [h]; decide +kernel)]; omega
      · rw [look_len hlook (n := 2) (by rw [h]; decide +kernel)]; omega
      · rw [look_len hlook (n := 1) (by rw [h]; decide +kernel)]; omega
    obtain ⟨dx, m, k, f0, es, B⟩ := id hB
    refine ⟨_, rfl, p, _, ((0 : Nat) : Int), .str (ws.getD 0 ""), rfl, rfl, SqL.of hp, word_at (K := K) hp hpos, rfl, _, rfl, ?_⟩
    refine ite2 (fun h1 => ?_) (fun h1 => ?_)
    · have h1 : ws.getD 0 "" = "put" := by simpa using h1
      have hl := look_len hlook (n := 3) (by rw [h1]; decide +kernel)
      have m1 := hws _ (get_mem (ws := ws) (i := 1) (by omega))
      have m2 := hws _ (get_mem (ws := ws) (i := 2) (by omega))
      refine ⟨_, rfl, d, _, _, _, _, rfl, hd, T.cl_Desk, T.na_own, at_own, b, _, _, rfl, B.at_, rfl, _, rfl, p, _, ((1 : Nat) : Int), _, rfl, rfl, SqL.of hp, word_at (K := K) hp (by omega), _, rfl, p, _, ((2 : Nat) : Int), _, rfl, rfl, SqL.of hp, word_at (K := K) hp (by omega), _, rfl, ?_⟩
      exact ⟨b, e, L, words, kvs, _, _, rfl, hB, hL, by omega, Nat.le_trans (readW_len _) (by omega), fun H' kvs' fr hB' hlen => q1 H' kvs' fr hB' (fun _ => hlen), fun C hC H' ex hbad => q2 C (mem_more hC) H' ex (fun _ => hbad)⟩
    · have h1 : ¬ ws.getD 0 "" = "put" := by simpa using h1
      refine ⟨_, rfl, p, _, ((0 : Nat) : Int), .str (ws.getD 0 ""), rfl, rfl, SqL.of hp, word_at (K := K) hp hpos, rfl, _, rfl, ?_⟩
      refine ite2 (fun h2 => ?_) (fun h2 => ?_)
      · have h2 : ws.getD 0 "" = "drop" := by simpa using h2
        have hl := look_len hlook (n := 2) (by rw [h2]; decide +kernel)
        have m1 := hws _ (get_mem (ws := ws) (i := 1) (by omega))
        refine ⟨_, rfl, d, _, _, _, _, rfl, hd, T.cl_Desk, T.na_own, at_own, b, _, _, rfl, B.at_, rfl, _, rfl, p, _, ((1 : Nat) : Int), _, rfl, rfl, SqL.of hp, word_at (K := K) hp (by omega), ?_⟩
        exact ⟨b, e, L, words, kvs, _, rfl, hB, hL, by omega, fun H' kvs' fr hB' => q1 H' kvs' fr hB' (fun z => absurd z h1), fun H' ex => q2 "NoName" (by simp) H' ex (fun z => absurd z h1)⟩
      · refine ⟨_, rfl, d, _, _, _, _, rfl, hd, T.cl_Desk, T.na_own, at_own, b, _, _, rfl, B.at_, rfl, ?_⟩
        exact ⟨b, e, L, words, kvs, rfl, hB, hL, fun H' kvs' fr hB' => q1 H' kvs' fr hB' (fun z => absurd z h1), fun H' ex => q2 "NoDeed" (by simp) H' ex (fun z => absurd z h1)⟩
theorem notQ {ws : List Str} {x : Str} (h : ws.getD 0 "" = x) (h1 : x ≠ "names") (h2 : x ≠ "row") (h3 : x ≠ "gone") : ¬ isQ ws := by
  rintro (e | e | e)
  · exact h1 (h.symm.trans e)
  · exact h2 (h.symm.trans e)
  · exact h3 (h.symm.trans e)
def spAns (K : PySem.W.Frag) : Sp := fun vs H Q E => ∃ (d ddx p b e : Addr) (L : Nat) (words : List Str) (kvs : List (Key × V)) (ws : List Str) (n : Nat), vs = [.ref d, .ref p, .int (n : Int)] ∧ H d = some (.ins (He.ga K "Desk") ddx [("own", .ref b)]) ∧ H p = some (.lst (ws.map V.str)) ∧
  BenchT K H b e L words kvs ∧ L ≤ 1000000 ∧ lookW ws = true ∧ (∀ x ∈ ws, x.length ≤ 5000) ∧ ¬ (ws.getD 0 "" = "put" ∨ ws.getD 0 "" = "drop" ∨ ws.getD 0 "" = "undo") ∧ n ≤ 400 ∧ (ws.getD 0 "" = "run" → n ≤ 200) ∧ (ws.getD 0 "" = "count" → n ≤ 4) ∧
  (∀ (s : Str) H' kvs', Fr [b, e] H H' → BenchT K H' b e (L + 2000) words kvs' → TextOk s → (isQ ws → Evl.Ex H H' ∧ QAns H kvs ws s) → Q (.str s) H') ∧ (∀ H', Evl.Ex H H' → (isQ ws → QErr kvs ws) → E (.ref (He.ga K "NoName")) none H')
theorem k_answered (T : Txt w K mg) : Kp P w K mg base (L2.CX P w) 5 (He.fAd K ("Desk", some "answered")) P_Desk_answered (spAns K) := by
  have G_Bench_run := k_run (P := P) (base := base) T
  have G_Bench_row := k_row (P := P) (base := base) T
  have G_Bench_gone := k_gone (P := P) (base := base) T
  have G_Bench_names := k_names (P := P) (base := base) T
  have G_shown_word := k_shown_word (P := P) (base := base) T
  have G_many_before := k_many_before (P := P) (base := base) T
  have G_fate := k_fate (P := P) (base := base) T
  refine Kp.of T.d_Desk_answered sc_Desk_answered bn_Desk_answered (fun vs H Q E h => ?_) (fun f cdv A outer s H vs Q E hr h => ?_)
  · obtain ⟨d, ddx, p, b, e, L, words, kvs, ws, n, rfl, _⟩ := h
    rfl
  · obtain ⟨d, ddx, p, b, e, L, words, kvs, ws, n, rfl, hd, hp, hB, hL, hlook, hws, hc, hn, hn1, hn2, q1, q2⟩ := h
    refine ⟨_, (pss_cons (ps_if (pt_cmpR op_eq (pe_ix ix_list (pv 1) pe_int (fun _ _ => rfl)) pe_str (nomark _)) (pss_one (ps_ret (pe_callTy call_str_int rfl T.f_str (by decide +kernel) (pa_cons (pe_mt (pe_fld (pv 0) rfl) T.cl_Bench T.m_Bench_run G_Bench_run (hr.mono (by decide)) (L2.passes_call (L2.takes_of rfl rfl rfl rfl) (fun _ _ _ _ h => h)) (pa_cons (pe_ix ix_list (pv 1) pe_int (fun _ _ => rfl)) (pa_cons (pv 2) pa_nil))) pa_nil)))) pss_nil)
      (pss_cons (ps_if (pt_cmpR op_eq (pe_ix ix_list (pv 1) pe_int (fun _ _ => rfl)) pe_str (nomark _)) (pss_one (ps_ret (pe_fn G_shown_word (hr.mono (by decide)) rfl T.g_shown_word pass0 (pa_cons (pe_mt (pe_fld (pv 0) rfl) T.cl_Bench T.m_Bench_row G_Bench_row (hr.mono (by decide)) (L2.passes_call (L2.takes_of rfl rfl rfl rfl) (fun _ _ _ _ h => h)) (pa_cons (pe_ix ix_list (pv 1) pe_int (fun _ _ => rfl)) pa_nil)) pa_nil)))) pss_nil)
      (pss_cons (ps_if (pt_cmpR op_eq (pe_ix ix_list (pv 1) pe_int (fun _ _ => rfl)) pe_str (nomark _)) (pss_one (ps_ret (pe_callTy call_str_int rfl T.f_str (by decide +kernel) (pa_cons (pe_mt (pe_fld (pv 0) rfl) T.cl_Bench T.m_Bench_gone G_Bench_gone (hr.mono (by decide)) (L2.passes_call (L2.takes_of rfl rfl rfl rfl) (fun _ _ _ _ h => h)) (pa_cons (pe_ix ix_list (pv 1) pe_int (fun _ _ => rfl)) pa_nil)) pa_nil)))) pss_nil)
      (pss_cons (ps_if (pt_cmpR op_eq (pe_ix ix_list (pv 1) pe_int (fun _ _ => rfl)) pe_str (nomark _)) (pss_one (ps_ret (pe_orT (pe_join pe_str (pe_mt0 (pe_fld (pv 0) rfl) T.cl_Bench T.m_Bench_names G_Bench_names (hr.mono (by decide)) pass0)) (pe_one pe_str)))) pss_nil)
      (pss_cons (ps_set (i := 3) sc_Desk_answered.nd rfl (by first | exact Or.inl rfl | exact Or.inr rfl) (pe_mt (pe_fld (pv 0) rfl) T.cl_Bench T.m_Bench_row G_Bench_row (hr.mono (by decide)) (L2.passes_call (L2.takes_of rfl rfl rfl rfl) (fun _ _ _ _ h => h)) (pa_cons (pe_ix ix_list (pv 1) pe_int (fun _ _ => rfl)) pa_nil)))
      (pss_cons (ps_if (pt_cmpR op_eq (pe_ix ix_list (pv 1) pe_int (fun _ _ => rfl)) pe_str (nomark _)) (pss_one (ps_ret (pe_callTy call_str_int rfl T.f_str (by decide +kernel) (pa_cons (pe_fn G_many_before (hr.mono (by decide)) rfl T.g_many_before pass0 (pa_cons (pe_fld (pe_fld (pv 0) rfl) rfl) (pa_cons (pv 3) (pa_cons (pv 2) pa_nil)))) pa_nil)))) pss_nil)
      (pss_cons (ps_set (i := 4) sc_Desk_answered.nd rfl (by first | exact Or.inl rfl | exact Or.inr rfl) (pe_fn G_fate (hr.mono (by decide)) rfl T.g_fate pass0 (pa_cons (pe_fld (pe_fld (pv 0) rfl) rfl) (pa_cons (pv 3) (pa_cons (pv 2) pa_nil)))))
      (pss_cons (ps_if (pt_cmpR op_eq (pe_ix ix_tup (pv 4) pe_int (fun _ _ => rfl)) pe_str (nomark _)) (pss_one (ps_ret (pe_op op_add_str (pe_op op_add_str (pe_op op_add_str pe_str (pe_callTy call_str_int rfl T.f_str (by decide +kernel) (pa_cons (pe_ix ix_tup (pv 4) pe_int (fun _ _ => rfl)) pa_nil))) pe_str) (pe_fn G_shown_word (hr.mono (by decide)) rfl T.g_shown_word pass0 (pa_cons (pe_ix ix_tup (pv 4) pe_int (fun _ _ => rfl)) pa_nil))))) pss_nil)
      (pss_one (ps_ret (pe_join pe_str (pe_lc (own := [("part", 5)]) (g := gName 5) (by rfl) sc_Desk_answered.nd (pi_tup (pv 4)) (blkOk_by (own := [("part", 5)]) (N := N_Desk_answered) (sc := defScope s_Desk_answered) (by decide +kernel)) (fun _ _ _ _ _ => pg_name (i := 5) sc_Desk_answered.nd rfl (by first | exact Or.inl rfl | exact Or.inr rfl)) (fun _ _ _ _ _ => pts_nil) (fun _ _ _ _ _ => (pe_callTy (CallR.or call_str_int SkE.call_str_str) rfl T.f_str (by decide +kernel) (pa_cons (pv 5) pa_nil))))))))))))))), ?_⟩
    have hform : ∃ k, formN (ws.getD 0 "") = some k ∧ ws.length = k := by
      unfold lookW at hlook
      rw [Bool.and_eq_true, decide_eq_true_eq, decide_eq_true_eq] at hlook
      exact ⟨_, hlook.2, rfl⟩
    obtain ⟨k0, hk0, hk1⟩ := hform
    have hpos : 0 < ws.length := by
      rw [hk1]
      unfold formN at hk0
      repeat' split at hk0
      all_goals first | (have := Option.some.inj hk0; omega) | cases hk0
    obtain ⟨dx, m, k, f0, es, B⟩ := id hB
    refine ⟨_, rfl, p, _, ((0 : Nat) : Int), .str (ws.getD 0 ""), rfl, rfl, SqL.of hp, word_at (K := K) hp hpos, rfl, _, rfl, ?_⟩
    refine ite2 (fun h1 => ?_) (fun h1 => ?_)
    · have h1 : ws.getD 0 "" = "run" := by simpa using h1
      have nq := notQ h1 (by decide +kernel) (by decide +kernel) (by decide +kernel)
      have hl := look_len hlook (n := 3) (by rw [h1]; decide +kernel)
      have m1 := hws _ (get_mem (ws := ws) (i := 1) (by omega))
      refine ⟨_, rfl, d, _, _, _, _, rfl, hd, T.cl_Desk, T.na_own, at_own, b, _, _, rfl, B.at_, rfl, _, rfl, p, _, ((1 : Nat) : Int), _, rfl, rfl, SqL.of hp, word_at (K := K) hp (by omega), _, rfl, ?_⟩
      exact ⟨b, e, L, words, kvs, _, n, rfl, hB, hL, by omega, hn1 h1, fun H' kvs' i fr hB' hi => ⟨(i : Int), rfl, log_small (by omega) (by omega), q1 _ H' kvs' fr hB' (num_ok (by omega) (by omega)) (fun z => absurd z nq)⟩, fun H' ex => q2 H' ex (fun z => absurd z nq)⟩
    have h1 : ¬ ws.getD 0 "" = "run" := by simpa using h1
    refine ⟨_, rfl, p, _, ((0 : Nat) : Int), .str (ws.getD 0 ""), rfl, rfl, SqL.of hp, word_at (K := K) hp hpos, rfl, _, rfl, ?_⟩
    refine ite2 (fun h2 => ?_) (fun h2 => ?_)
    · have h2 : ws.getD 0 "" = "row" := by simpa using h2
      have hl := look_len hlook (n := 2) (by rw [h2]; decide +kernel)
      have m1 := hws _ (get_mem (ws := ws) (i := 1) (by omega))
      refine ⟨_, rfl, d, _, _, _, _, rfl, hd, T.cl_Desk, T.na_own, at_own, b, _, _, rfl, B.at_, rfl, _, rfl, p, _, ((1 : Nat) : Int), _, rfl, rfl, SqL.of hp, word_at (K := K) hp (by omega), ?_⟩
      refine ⟨b, e, L, words, kvs, _, rfl, hB, by omega, fun t r g H' el ht ro g0 g1 ex => ⟨r, rfl, q1 _ H' kvs (Fr.of_ex ex) (hB.ex ex (by omega)) ?_ (fun _ => ⟨ex, .inr (.inl ⟨h2, t, r, g, el, ht, rfl⟩)⟩)⟩, fun H' el ex => q2 H' ex (fun _ => ⟨.inl h2, el⟩)⟩
      exact show_ok (by have := ro.2; omega) (strOk_sg ro.1)
    have h2 : ¬ ws.getD 0 "" = "row" := by simpa using h2
    refine ⟨_, rfl, p, _, ((0 : Nat) : Int), .str (ws.getD 0 ""), rfl, rfl, SqL.of hp, word_at (K := K) hp hpos, rfl, _, rfl, ?_⟩
    refine ite2 (fun h3 => ?_) (fun h3 => ?_)
    · have h3 : ws.getD 0 "" = "gone" := by simpa using h3
      have hl := look_len hlook (n := 2) (by rw [h3]; decide +kernel)
      have m1 := hws _ (get_mem (ws := ws) (i := 1) (by omega))
      refine ⟨_, rfl, d, _, _, _, _, rfl, hd, T.cl_Desk, T.na_own, at_own, b, _, _, rfl, B.at_, rfl, _, rfl, p, _, ((1 : Nat) : Int), _, rfl, rfl, SqL.of hp, word_at (K := K) hp (by omega), ?_⟩
      exact ⟨b, e, L, words, kvs, _, rfl, hB, by omega, fun t r g H' el ht ro g0 g1 ex => ⟨g, rfl, log_small (by omega) (by omega), q1 _ H' kvs (Fr.of_ex ex) (hB.ex ex (by omega)) (num_ok g0 (by omega)) (fun _ => ⟨ex, .inr (.inr ⟨h3, t, r, g, el, ht, rfl⟩)⟩)⟩, fun H' el ex => q2 H' ex (fun _ => ⟨.inr h3, el⟩)⟩
    have h3 : ¬ ws.getD 0 "" = "gone" := by simpa using h3
    refine ⟨_, rfl, p, _, ((0 : Nat) : Int), .str (ws.getD 0 ""), rfl, rfl, SqL.of hp, word_at (K := K) hp hpos, rfl, _, rfl, ?_⟩
    refine ite2 (fun h4 => ?_) (fun h4 => ?_)
    · have h4 : ws.getD 0 "" = "names" := by simpa using h4
      refine ⟨⟨_, rfl⟩, _, rfl, d, _, _, _, _, rfl, hd, T.cl_Desk, T.na_own, at_own, b, _, _, rfl, B.at_, rfl, ?_⟩
      refine ⟨b, e, L, words, kvs, rfl, hB, fun ys pl hperm hsort hpl => ?_⟩
      have hys : ∀ x ∈ ys, x.length ≤ 8 := fun x hx => B.kept.name_len x (hperm.mem_iff.mp hx)
      have hyl : ys.length ≤ 12 := by
        rw [hperm.length_eq]
        unfold namesOf
        rw [List.length_map]
        exact B.kept.1
      have hsum := sum_le hys
      have hjl := join_len (y := " ") ys
      have h1l : (" " : Str).length = 1 := by decide +kernel
      rw [h1l] at hjl
      have ex := Evl.Ex.new (o := .lst (ys.map V.str)) hpl
      refine ⟨" ", pl, ys, rfl, rfl, .inl (SqL.of upd_same), by rw [h1l]; omega, ?_⟩
      refine ⟨_, ⟨size_of (by omega), rfl⟩, ?_⟩
      by_cases hj : Txt.join " " ys = ""
      · have e0 : (((Txt.join " " ys).length : Int) != 0) = false := by rw [hj]; decide +kernel
        rw [e0]
        refine iteF ?_
        exact q1 _ _ kvs (Fr.of_ex ex) (hB.ex ex (by omega)) ⟨by decide +kernel, by decide +kernel⟩ (fun _ => ⟨ex, .inl ⟨h4, ys, hperm, hsort, by rw [if_pos hj]⟩⟩)
      · have e0 : (((Txt.join " " ys).length : Int) != 0) = true := by
          rw [bne_iff_ne]
          intro z
          exact hj (len_zero (by omega))
        rw [e0]
        refine iteT ?_
        exact q1 _ _ kvs (Fr.of_ex ex) (hB.ex ex (by omega)) ⟨by omega, join_ok fun y hy => B.kept.name_ok y (hperm.mem_iff.mp hy)⟩ (fun _ => ⟨ex, .inl ⟨h4, ys, hperm, hsort, by rw [if_neg hj]⟩⟩)
    have h4 : ¬ ws.getD 0 "" = "names" := by simpa using h4
    have nq : ¬ isQ ws := fun z => z.elim h4 fun z => z.elim h2 h3
    have hl : ws.length = 3 := by
      rw [hk1]
      unfold formN at hk0
      rw [if_neg (fun z => hc (.inl z)), if_neg (fun z => hc (.inr (.inl z))), if_neg (fun z => hc (.inr (.inr z))), if_neg h1, if_neg h2, if_neg h3, if_neg h4] at hk0
      repeat' split at hk0
      all_goals first | exact (Option.some.inj hk0).symm | cases hk0
    have m1 := hws _ (get_mem (ws := ws) (i := 1) (by omega))
    refine ⟨_, rfl, d, _, _, _, _, rfl, hd, T.cl_Desk, T.na_own, at_own, b, _, _, rfl, B.at_, rfl, _, rfl, p, _, ((1 : Nat) : Int), _, rfl, rfl, SqL.of hp, word_at (K := K) hp (by omega), ?_⟩
    refine ⟨b, e, L, words, kvs, _, rfl, hB, by omega, fun t r g H1 el ht ro g0 g1 ex => ?_, fun H' el ex => q2 H' ex (fun z => absurd z nq)⟩
    have B1 := B.ex ex (Nat.le_refl L)
    have hd1 := ex _ _ hd
    have hp1 := ex _ _ hp
    have rol := ro.2
    have done : ∀ (s : Str) H', Evl.Ex H1 H' → TextOk s → Q (.str s) H' := fun s H' ex' hs => q1 s H' kvs (Fr.of_ex (ex.trans ex')) (hB.ex (ex.trans ex') (by omega)) hs (fun z => absurd z nq)
    refine ⟨_, rfl, p, _, ((0 : Nat) : Int), .str (ws.getD 0 ""), rfl, rfl, SqL.of hp1, word_at (K := K) hp1 hpos, rfl, _, rfl, ?_⟩
    refine ite2 (fun h5 => ?_) (fun h5 => ?_)
    · have h5 : ws.getD 0 "" = "count" := by simpa using h5
      refine ⟨_, rfl, d, _, _, _, _, rfl, hd1, T.cl_Desk, T.na_own, at_own, b, _, _, _, _, rfl, B1.at_, T.cl_Bench, T.na_device, at_device, _, rfl, _, rfl, ?_⟩
      refine ⟨m, f0, words, r, L, n, rfl, B1.mach, B1.ok, ro.1, ro.2, by omega, hn2 h5, fun H' k1 ex' hk => ⟨(k1 : Int), rfl, log_small (by omega) (by omega), done _ H' ex' (num_ok (by omega) (by omega))⟩⟩
    refine ⟨_, rfl, d, _, _, _, _, rfl, hd1, T.cl_Desk, T.na_own, at_own, b, _, _, _, _, rfl, B1.at_, T.cl_Bench, T.na_device, at_device, _, rfl, _, rfl, ?_⟩
    refine ⟨m, f0, words, r, L, n, rfl, B1.mach, B1.ok, ro, by omega, by omega, fun H2 p2 xs ex2 hp2 hfate => ?_⟩
    have h1l : (" " : Str).length = 1 := by decide +kernel
    rcases hfate with ⟨n1, r1, rfl, hn1', hr1, hr2⟩ | hrest
    · have hnl := num_len (i := (n1 : Int)) (by omega) (by omega)
      have hso := show_ok (r := r1) (by omega) hr2
      have hsl : (showW r1).length ≤ 5000000 := by
        unfold showW
        split
        · decide +kernel
        · exact hr1
      have hrl : ("rests " : Str).length = 6 := by decide +kernel
      refine ⟨_, rfl, p2, _, ((0 : Nat) : Int), .str "rests", rfl, rfl, SqT.of hp2, atI_nat rfl, rfl, _, rfl, ?_⟩
      refine ite2 (fun _ => ?_) (fun z => absurd (decide_eq_true rfl) z)
      refine ⟨_, rfl, p2, _, ((1 : Nat) : Int), .int (n1 : Int), rfl, rfl, SqT.of hp2, atI_nat rfl, (n1 : Int), rfl, log_small (by omega) (by omega), _, _, rfl, rfl, size_of (by omega), _, _, rfl, rfl, size_of (by rw [len_app]; omega), _, rfl, p2, _, ((2 : Nat) : Int), .str r1, rfl, rfl, SqT.of hp2, atI_nat rfl, r1, rfl, _, _, rfl, rfl, size_of (by rw [len_app, len_app]; omega), done _ H2 ex2 ⟨by rw [len_app, len_app, len_app]; omega, strOk_app (strOk_app (strOk_app (by decide +kernel) (strOk_num (by omega))) (by decide +kernel)) hso.2⟩⟩
    · have hgen : ∃ (z : Str) (r1 : List V), xs = .str z :: r1 ∧ z ≠ "rests" ∧ xs.length ≤ 3 ∧ ∀ x ∈ xs, (∃ i : Int, x = .int i ∧ 0 ≤ i ∧ i ≤ 10000) ∨ ∃ z : Str, x = .str z ∧ z.length ≤ 18 ∧ PyData.strOk z = true := by
        rcases hrest with ⟨a1, b1, rfl, ⟨ha0, ha1⟩, hb0, hb1⟩ | rfl
        · refine ⟨"round", _, rfl, by decide +kernel, by simp, fun x hx => ?_⟩
          rcases (by simpa using hx : x = .str "round" ∨ x = .int a1 ∨ x = .int b1) with rfl | rfl | rfl
          · exact .inr ⟨_, rfl, by decide +kernel, by decide +kernel⟩
          · exact .inl ⟨_, rfl, by omega, by omega⟩
          · exact .inl ⟨_, rfl, by omega, by omega⟩
        · refine ⟨"open", _, rfl, by decide +kernel, by simp, fun x hx => ?_⟩
          rw [List.mem_singleton.mp hx]
          exact .inr ⟨_, rfl, by decide +kernel, by decide +kernel⟩
      obtain ⟨z0, r1, exs, hz0, hxl, hall⟩ := hgen
      refine ⟨_, rfl, p2, xs, ((0 : Nat) : Int), .str z0, rfl, rfl, SqT.of hp2, atI_nat (by rw [exs]; rfl), rfl, _, rfl, ?_⟩
      refine ite2 (fun h => absurd (by simpa using h) hz0) (fun _ => ?_)
      refine ⟨⟨_, rfl⟩, _, rfl, p2, rfl, ⟨_, SqT.of hp2⟩, fun D hD => lc_it (walk_tup (xs := xs)) (fun i H' => Evl.Ex H2 H' ∧ ∃ ys : List Str, H' D = some (.lst (ys.map V.str)) ∧ ys.length = i ∧ ∀ y ∈ ys, y.length ≤ 18 ∧ PyData.strOk y = true) ⟨Evl.Ex.new hD, [], upd_same, rfl, fun y hy => absurd hy (by simp)⟩
        (fun i H' _ z => SqT.of (z.1 _ _ hp2)) ?_ ?_⟩
      · rintro i x Hx Hx' hi ⟨ex3, ys, hDl, hyl, hy⟩ ⟨rfl, hx⟩
        refine ⟨rfl, ?_⟩
        have fin : ∀ z : Str, (z.length ≤ 18 ∧ PyData.strOk z = true) → ∃ acc, Hx' D = some (.lst acc) ∧ acc.length < sizeLine ∧ (Evl.Ex H2 (upd Hx' D (.lst (acc ++ [.str z]))) ∧ ∃ ys : List Str, upd Hx' D (.lst (acc ++ [.str z])) D = some (.lst (ys.map V.str)) ∧ ys.length = i + 1 ∧ ∀ y ∈ ys, y.length ≤ 18 ∧ PyData.strOk y = true) := fun z hz => by
          refine ⟨_, hDl, size_lt (by rw [List.length_map]; omega), Evl.Ex.mut ex3 hD, ys ++ [z], ?_, by simp [hyl], fun y hy2 => ?_⟩
          · rw [upd_same, List.map_append]
            rfl
          · rcases List.mem_append.mp hy2 with h | h
            · exact hy y h
            · rw [List.mem_singleton.mp h]
              exact hz
        rcases hall x (List.mem_of_getElem? hx) with ⟨j, rfl, j0, j1⟩ | ⟨z, rfl, hz⟩
        · exact ⟨_, rfl, .inl ⟨j, rfl, log_small (by omega) (by omega), fin _ ⟨num_len (by omega) (by omega), strOk_num j0⟩⟩⟩
        · exact ⟨_, rfl, .inr ⟨z, rfl, fin z hz⟩⟩
      · rintro H3 ⟨ex3, ys, hDl, hyl, hy⟩
        have hsum := sum_le fun y h => (hy y h).1
        have hjl := join_len (y := " ") ys
        rw [h1l] at hjl
        exact ⟨" ", D, ys, rfl, rfl, .inl (SqL.of hDl), by rw [h1l]; omega, done _ H3 (ex2.trans ex3) ⟨by omega, join_ok fun y h => (hy y h).2⟩⟩
end
end Tg

namespace Tg
open PySem PySem.Spec PyProof.Rows L2
def NonStr (K : PySem.W.Frag) (H : Hp) (x : V) : Prop := ∃ a : String, TyX K H x (.type a) ∧ kitB a "str" = some false
theorem bound_form {z : Str} (h : boundN z ≠ none) : formN z = some 3 := by
  unfold boundN at h
  by_cases h1 : z = "run"
  · rw [h1]; decide +kernel
  · rw [if_neg h1] at h
    by_cases h2 : z = "fate"
    · rw [h2]; decide +kernel
    · rw [if_neg h2] at h
      by_cases h3 : z = "count"
      · rw [h3]; decide +kernel
      · rw [if_neg h3] at h
        exact absurd rfl h
theorem QAns.back {H H1 : Hp} {words : List Str} {L : Nat} {kvs : List (Key × V)} {ws : List Str} {s : Str} (h : QAns H1 kvs ws s) (k : Kept H words L kvs) (ex : Evl.Ex H H1) : QAns H kvs ws s := by
  rcases h with h | ⟨h1, t, r, g, e1, e2, e3⟩ | ⟨h1, t, r, g, e1, e2, e3⟩
  · exact .inl h
  · obtain ⟨_, _, t', r', g', e4, e5, _⟩ := k.look e1
    cases e4
    have z := (ex _ _ e5).symm.trans e2
    cases z
    exact .inr (.inl ⟨h1, t, r, g, e1, e5, e3⟩)
  · obtain ⟨_, _, t', r', g', e4, e5, _⟩ := k.look e1
    cases e4
    have z := (ex _ _ e5).symm.trans e2
    cases z
    exact .inr (.inr ⟨h1, t, r, g, e1, e5, e3⟩)
section
variable {P : Program} {w : World} {K : PySem.W.Frag} {mg : Str → Option Value} {base : Heap}
def spSay (K : PySem.W.Frag) : Sp := fun vs H Q E => ∃ (d ddx : Addr) (o x : V), vs = [.ref d, x] ∧ H d = some (.ins (He.ga K "Desk") ddx [("own", o)]) ∧
  ((NonStr K H x ∧ ∀ H', Evl.Ex H H' → E (.ref (He.ga K "NoRow")) none H') ∨
   ∃ t : Str, x = .str t ∧ t.length ≤ 5000 ∧ (rowB t = false → ∀ H', Evl.Ex H H' → E (.ref (He.ga K "NoRow")) none H') ∧
    (rowB t = true → Txt.startswith t "machine " = true → ∀ H' b e words, words = (wordsOf (behind t)).tail.map readW → Fr [d] H H' → H' d = some (.ins (He.ga K "Desk") ddx [("own", .ref b)]) → (∀ L, BenchT K H' b e L words []) → H b = none → H e = none → Q (.str "ok") H') ∧
    (rowB t = true → Txt.startswith t "machine " = false →
      (o = .non ∧ ∀ H', Evl.Ex H H' → E (.ref (He.ga K "NoMachine")) none H') ∨
      ∃ (b e : Addr) (L : Nat) (words : List Str) (kvs : List (Key × V)), o = .ref b ∧ BenchT K H b e L words kvs ∧ L ≤ 1000000 ∧
        (∀ (s : Str) H' kvs', Fr [b, e] H H' → BenchT K H' b e (L + 2000) words kvs' → TextOk s → (isQ (wordsOf t) → Evl.Ex H H' ∧ QAns H kvs (wordsOf t) s) → ((wordsOf t).getD 0 "" = "put" → kvs'.length ≤ kvs.length + 1) → Q (.str s) H') ∧
        (∀ C ∈ (["NoName", "NoSign", "TooMany", "NoDeed"] : List Str), ∀ H', Evl.Ex H H' → (isQ (wordsOf t) → QErr kvs (wordsOf t) ∧ C = "NoName") → ((wordsOf t).getD 0 "" = "put" → putBad ((wordsOf t).getD 1 "") (readW ((wordsOf t).getD 2 "")) words kvs) → E (.ref (He.ga K C)) none H')))
theorem k_say (T : Txt w K mg) : Kp P w K mg base (L2.CX P w) 7 (He.fAd K ("Desk", some "say")) P_Desk_say (spSay K) := by
  have G_Desk_begin := k_begin (P := P) (base := base) T
  have G_look_at_words := k_look_at (P := P) (base := base) T
  have G_number_in := k_number (P := P) (base := base) T
  have G_Desk_done := k_done (P := P) (base := base) T
  have G_Desk_answered := k_answered (P := P) (base := base) T
  obtain ⟨_, _, bD⟩ := T.bounds.d
  refine Kp.of T.d_Desk_say sc_Desk_say bn_Desk_say (fun vs H Q E h => ?_) (fun f cdv A outer s H vs Q E hr h => ?_)
  · obtain ⟨d, ddx, o, x, rfl, _⟩ := h
    rfl
  · obtain ⟨d, ddx, o, x, rfl, hd, hcase⟩ := h
    refine ⟨_, (pss_cons (ps_if (pt_not (pt_val (pe_callB call_isi rfl T.f_isinstance (by decide +kernel) (pa_cons (pv 1) (pa_cons (pe_bltn (v := .ty "str") (u := .type "str") rfl T.f_str (by decide +kernel) rfl) pa_nil))))) (pss_one (ps_er rfl (L2.takes_of rfl rfl rfl rfl) T.e_NoRow rfl)) pss_nil)
      (pss_cons (ps_if (pt_val (pe_m1 PySem.F.slot_str_startswith PySem.F.type_str_startswith mt_startswith (pv 1) pe_str)) (pss_one (ps_ret (pe_mt (pv 0) T.cl_Desk T.m_Desk_begin G_Desk_begin (hr.mono (by decide)) (L2.passes_call (L2.takes_of rfl rfl rfl rfl) (fun _ _ _ _ h => h)) (pa_cons (pe_slice sl_str (pv 1) (po_some pe_int) po_none) pa_nil)))) pss_nil)
      (pss_cons (ps_set (i := 2) sc_Desk_say.nd rfl (by first | exact Or.inl rfl | exact Or.inr rfl) (pe_split (pv 1) pe_str))
      (pss_cons (ps_expr (pe_fn G_look_at_words (hr.mono (by decide)) rfl T.g_look_at_words (L2.passes_call (L2.takes_of rfl rfl rfl rfl) (fun _ _ _ _ h => h)) (pa_cons (pv 2) pa_nil)))
      (pss_cons (ps_set (i := 3) sc_Desk_say.nd rfl (by first | exact Or.inl rfl | exact Or.inr rfl) pe_int)
      (pss_cons (ps_if (pt_cmpR (op_in_kd bD) (pe_ix ix_list (pv 2) pe_int (fun _ _ => rfl)) (pe_glob (v := .ref (He.ga K "BOUNDS")) rfl T.g_BOUNDS rfl) (by rfl)) (pss_one (ps_set (i := 3) sc_Desk_say.nd rfl (by first | exact Or.inl rfl | exact Or.inr rfl) (pe_fn G_number_in (hr.mono (by decide)) rfl T.g_number_in (L2.passes_call (L2.takes_of rfl rfl rfl rfl) (fun _ _ _ _ h => h)) (pa_cons (pe_ix ix_list (pv 2) pe_int (fun _ _ => rfl)) (pa_cons (pe_ix ix_kdict (pe_glob (v := .ref (He.ga K "BOUNDS")) rfl T.g_BOUNDS rfl) (pe_ix ix_list (pv 2) pe_int (fun _ _ => rfl)) (fun _ _ => rfl)) pa_nil))))) pss_nil)
      (pss_cons (ps_if (pt_cmpR op_isN (pe_fld (pv 0) rfl) pe_non (nomark _)) (pss_one (ps_er rfl (L2.takes_of rfl rfl rfl rfl) T.e_NoMachine rfl)) pss_nil)
      (pss_cons (ps_if (pt_cmpR op_in_seq (pe_ix ix_list (pv 2) pe_int (fun _ _ => rfl)) (pe_tup (pa_cons pe_str (pa_cons pe_str (pa_cons pe_str pa_nil)))) (by rfl)) (pss_cons (ps_expr (pe_mt (pv 0) T.cl_Desk T.m_Desk_done G_Desk_done (hr.mono (by decide)) (L2.passes_call (L2.takes_of rfl rfl rfl rfl) (fun _ _ _ _ h => h)) (pa_cons (pv 2) pa_nil)))
      (pss_one (ps_ret pe_str))) pss_nil)
      (pss_one (ps_ret (pe_mt (pv 0) T.cl_Desk T.m_Desk_answered G_Desk_answered (hr.mono (by decide)) (L2.passes_call (L2.takes_of rfl rfl rfl rfl) (fun _ _ _ _ h => h)) (pa_cons (pv 2) (pa_cons (pv 3) pa_nil))))))))))))), ?_⟩
    rcases hcase with ⟨⟨a, tyx, hk⟩, q⟩ | ⟨t, rfl, hl, qbad, qmach, qrow⟩
    · exact ⟨_, rfl, _, _, _, _, false, rfl, .ty _, tyx, kit_ty hk, false, rfl, iteT (q H (Evl.Ex.refl H))⟩
    · refine ⟨_, rfl, _, _, _, _, true, rfl, .ty _, .base (.str t), kit_ty (by decide +kernel), true, rfl, iteF ?_⟩
      refine ⟨_, rfl, ⟨_, rfl⟩, t, "machine ", rfl, rfl, _, rfl, ?_⟩
      refine ite2 (fun hs => ?_) (fun hs => ?_)
      · have hrow := rowB_mach hs
        have hbl : (behind t).length ≤ 5000 := Nat.le_trans (cutS_length t (some 8) none) hl
        exact ⟨_, rfl, d, ddx, _, rfl, hd, rfl, _, rfl, 8, rfl, t, rfl, size_of (by omega), d, ddx, o, behind t, rfl, hd, hbl, fun hb H' b e words hw fr hd' hB hb0 he0 => qmach (hrow.trans hb) hs H' b e words hw fr hd' hB hb0 he0, fun hb H' ex => qbad (hrow.trans hb) H' ex⟩
      · have hs : Txt.startswith t "machine " = false := by simpa using hs
        have hrow := rowB_else hs
        refine ⟨_, rfl, ⟨_, rfl⟩, t, " ", rfl, rfl, (by decide +kernel), size_of (by omega), fun p hp => ?_⟩
        show gName 2 (V.ref p) _ (upd H p (.lst ((wordsOf t).map V.str))) _
        have hne := words_ne t
        have hws : ∀ x ∈ wordsOf t, x.length ≤ 5000 := fun x hx => Nat.le_trans (words_short hx) hl
        generalize wordsOf t = ws at *
        have ex := Evl.Ex.new (o := .lst (ws.map V.str)) hp
        have hpos : 0 < ws.length := List.length_pos_iff.mpr hne
        have hd1 := ex _ _ hd
        have hp1 : upd H p (.lst (ws.map V.str)) p = some (.lst (ws.map V.str)) := upd_same
        have hH1 : ∃ H1, H1 = upd H p (.lst (ws.map V.str)) := ⟨_, rfl⟩
        obtain ⟨H1, eH1⟩ := hH1
        rw [← eH1] at ex hd1 hp1 ⊢
        refine ⟨_, rfl, p, ws, rfl, hp1, hne, fun hlook => ?_, fun hlook => qbad ?_ H1 ex⟩
        · -- number = 0
          rcases bounds_at T.bounds (ws.getD 0 "") with ⟨hbn, hns⟩ | ⟨mo, tk, hbn, h0, h400, hrun, hcount, hns⟩
          · refine ⟨_, rfl, p, _, ((0 : Nat) : Int), .str (ws.getD 0 ""), rfl, rfl, SqL.of hp1, word_at (K := K) hp1 hpos, ws.getD 0 "", _, rfl, rfl, hns, _, rfl, ?_⟩
            refine iteF ?_
            have hgood : rowW ws = true := by
              unfold rowW
              rw [hlook, hbn]
              rfl
            obtain ⟨n, en, hn400, hnr, hnc⟩ : ∃ n : Nat, n = 0 ∧ n ≤ 400 ∧ (ws.getD 0 "" = "run" → n ≤ 200) ∧ (ws.getD 0 "" = "count" → n ≤ 4) := ⟨0, rfl, by omega, fun _ => by omega, fun _ => by omega⟩
            subst en
            refine ⟨_, rfl, d, _, _, _, _, rfl, hd1, T.cl_Desk, T.na_own, at_own, rfl, _, rfl, ?_⟩
            rcases qrow (hrow.trans hgood) hs with ⟨eo, qn⟩ | ⟨b, e, L, words, kvs, eo, hB, hL, qs, qe⟩
            · subst eo
              exact iteT (qn H1 ex)
            · subst eo
              refine iteF ?_
              refine ⟨_, rfl, p, _, ((0 : Nat) : Int), .str (ws.getD 0 ""), rfl, rfl, SqL.of hp1, word_at (K := K) hp1 hpos, size_of (by show 3 ≤ 16000000; decide), fun tp htp => ?_⟩
              have ex2 := ex.trans (Evl.Ex.new (o := .tup [.str "put", .str "drop", .str "undo"]) htp)
              have exp := Evl.Ex.new (o := .tup [.str "put", .str "drop", .str "undo"]) htp
              have hd2 := exp _ _ hd1
              have hp2 := exp _ _ hp1
              have hB2 := hB.ex ex2 (Nat.le_refl L)
              refine ⟨tp, _, rfl, .inr (SqT.of upd_same), rfl, rfl, _, rfl, ?_⟩
              refine ite2 (fun hin => ?_) (fun hin => ?_)
              · have hin : inV (.str (ws.getD 0 "")) ((["put", "drop", "undo"] : List Str).map V.str) = true := hin
                rw [inV_strs, decide_eq_true_eq] at hin
                have hc : ws.getD 0 "" = "put" ∨ ws.getD 0 "" = "drop" ∨ ws.getD 0 "" = "undo" := by
                  rcases List.mem_cons.mp hin with h | h
                  · exact .inl h
                  · rcases List.mem_cons.mp h with h | h
                    · exact .inr (.inl h)
                    · exact .inr (.inr (List.mem_singleton.mp h))
                have nq : ¬ isQ ws := by
                  rcases hc with h | h | h <;> exact notQ h (by decide +kernel) (by decide +kernel) (by decide +kernel)
                exact ⟨_, rfl, d, ddx, _, rfl, hd2, rfl, _, rfl, d, ddx, p, b, e, L, words, kvs, ws, rfl, hd2, hp2, hB2, hL, hlook, hws, hc, fun H' kvs' fr hB' hput => qs "ok" H' kvs' (Fr.ex_trans ex2 fr) hB' ⟨by decide +kernel, by decide +kernel⟩ (fun z => absurd z nq) hput, fun C hC H' ex' hbad => qe C hC H' (ex2.trans ex') (fun z => absurd z nq) hbad⟩
              · have hin : ¬ inV (.str (ws.getD 0 "")) ((["put", "drop", "undo"] : List Str).map V.str) = true := hin
                rw [inV_strs, decide_eq_true_eq] at hin
                have hc : ¬ (ws.getD 0 "" = "put" ∨ ws.getD 0 "" = "drop" ∨ ws.getD 0 "" = "undo") := fun z => hin (by
                  rcases z with h | h | h
                  · rw [h]; exact List.mem_cons_self ..
                  · rw [h]; exact List.mem_cons_of_mem _ (List.mem_cons_self ..)
                  · rw [h]; exact List.mem_cons_of_mem _ (List.mem_cons_of_mem _ (List.mem_cons_self ..)))
                obtain ⟨dxB, mB, kB, fB, esB, BB⟩ := id hB
                exact ⟨_, rfl, d, ddx, _, rfl, hd2, rfl, _, rfl, _, rfl, d, ddx, p, b, e, L, words, kvs, ws, 0, rfl, hd2, hp2, hB2, hL, hlook, hws, hc, hn400, hnr, hnc,
                  fun s H' kvs' fr hB' hsl hq => qs s H' kvs' (Fr.ex_trans ex2 fr) hB' hsl (fun z => ⟨ex2.trans (hq z).1, (hq z).2.back BB.kept ex2⟩) (fun z => absurd (.inl z) hc), fun H' ex' hq => qe "NoName" (by simp) H' (ex2.trans ex') (fun z => ⟨hq z, rfl⟩) (fun z => absurd (.inl z) hc)⟩
          · have hl3 := look_len hlook (bound_form (by rw [hbn]; simp))
            refine ⟨_, rfl, p, _, ((0 : Nat) : Int), .str (ws.getD 0 ""), rfl, rfl, SqL.of hp1, word_at (K := K) hp1 hpos, ws.getD 0 "", _, rfl, rfl, hns, _, rfl, ?_⟩
            refine iteT ?_
            refine ⟨_, rfl, p, _, ((2 : Nat) : Int), _, rfl, rfl, SqL.of hp1, word_at (K := K) hp1 (by omega), _, rfl, p, _, ((0 : Nat) : Int), .str (ws.getD 0 ""), rfl, rfl, SqL.of hp1, word_at (K := K) hp1 hpos, He.ga K "BOUNDS", ws.getD 0 "", .int mo, rfl, rfl, ?_, ?_⟩
            · obtain ⟨es, n, D⟩ := T.bounds.d
              exact ⟨es, n, _, D.at_, D.lit, hns, ⟨tk, rfl⟩⟩
            refine ⟨ws.getD 2 "", mo, rfl, hws _ (get_mem (ws := ws) (i := 2) (by omega)), fun hnum n hn => ?_, fun hnum => qbad ?_ H1 ex⟩
            · have hgood : rowW ws = true := by
                unfold rowW
                rw [hlook, hbn]
                exact hnum
              have hn400 : n ≤ 400 := by omega
              have hnr : ws.getD 0 "" = "run" → n ≤ 200 := fun z => by have := hrun z; omega
              have hnc : ws.getD 0 "" = "count" → n ≤ 4 := fun z => by have := hcount z; omega
              refine ⟨_, rfl, d, _, _, _, _, rfl, hd1, T.cl_Desk, T.na_own, at_own, rfl, _, rfl, ?_⟩
              rcases qrow (hrow.trans hgood) hs with ⟨eo, qn⟩ | ⟨b, e, L, words, kvs, eo, hB, hL, qs, qe⟩
              · subst eo
                exact iteT (qn H1 ex)
              · subst eo
                refine iteF ?_
                refine ⟨_, rfl, p, _, ((0 : Nat) : Int), .str (ws.getD 0 ""), rfl, rfl, SqL.of hp1, word_at (K := K) hp1 hpos, size_of (by show 3 ≤ 16000000; decide), fun tp htp => ?_⟩
                have ex2 := ex.trans (Evl.Ex.new (o := .tup [.str "put", .str "drop", .str "undo"]) htp)
                have exp := Evl.Ex.new (o := .tup [.str "put", .str "drop", .str "undo"]) htp
                have hd2 := exp _ _ hd1
                have hp2 := exp _ _ hp1
                have hB2 := hB.ex ex2 (Nat.le_refl L)
                refine ⟨tp, _, rfl, .inr (SqT.of upd_same), rfl, rfl, _, rfl, ?_⟩
                refine ite2 (fun hin => ?_) (fun hin => ?_)
                · have hin : inV (.str (ws.getD 0 "")) ((["put", "drop", "undo"] : List Str).map V.str) = true := hin
                  rw [inV_strs, decide_eq_true_eq] at hin
                  have hc : ws.getD 0 "" = "put" ∨ ws.getD 0 "" = "drop" ∨ ws.getD 0 "" = "undo" := by
                    rcases List.mem_cons.mp hin with h | h
                    · exact .inl h
                    · rcases List.mem_cons.mp h with h | h
                      · exact .inr (.inl h)
                      · exact .inr (.inr (List.mem_singleton.mp h))
                  have nq : ¬ isQ ws := by
                    rcases hc with h | h | h <;> exact notQ h (by decide +kernel) (by decide +kernel) (by decide +kernel)
                  exact ⟨_, rfl, d, ddx, _, rfl, hd2, rfl, _, rfl, d, ddx, p, b, e, L, words, kvs, ws, rfl, hd2, hp2, hB2, hL, hlook, hws, hc, fun H' kvs' fr hB' hput => qs "ok" H' kvs' (Fr.ex_trans ex2 fr) hB' ⟨by decide +kernel, by decide +kernel⟩ (fun z => absurd z nq) hput, fun C hC H' ex' hbad => qe C hC H' (ex2.trans ex') (fun z => absurd z nq) hbad⟩
                · have hin : ¬ inV (.str (ws.getD 0 "")) ((["put", "drop", "undo"] : List Str).map V.str) = true := hin
                  rw [inV_strs, decide_eq_true_eq] at hin
                  have hc : ¬ (ws.getD 0 "" = "put" ∨ ws.getD 0 "" = "drop" ∨ ws.getD 0 "" = "undo") := fun z => hin (by
                    rcases z with h | h | h
                    · rw [h]; exact List.mem_cons_self ..
                    · rw [h]; exact List.mem_cons_of_mem _ (List.mem_cons_self ..)
                    · rw [h]; exact List.mem_cons_of_mem _ (List.mem_cons_of_mem _ (List.mem_cons_self ..)))
                  obtain ⟨dxB, mB, kB, fB, esB, BB⟩ := id hB
                  exact ⟨_, rfl, d, ddx, _, rfl, hd2, rfl, _, rfl, _, rfl, d, ddx, p, b, e, L, words, kvs, ws, n, rfl, hd2, hp2, hB2, hL, hlook, hws, hc, hn400, hnr, hnc,
                    fun s H' kvs' fr hB' hsl hq => qs s H' kvs' (Fr.ex_trans ex2 fr) hB' hsl (fun z => ⟨ex2.trans (hq z).1, (hq z).2.back BB.kept ex2⟩) (fun z => absurd (.inl z) hc), fun H' ex' hq => qe "NoName" (by simp) H' (ex2.trans ex') (fun z => ⟨hq z, rfl⟩) (fun z => absurd (.inl z) hc)⟩
            · rw [hrow]
              unfold rowW
              rw [hlook, hbn]
              exact hnum
        · rw [hrow]
          unfold rowW
          rw [hlook]
          rfl
end
end Tg

namespace Tg
open PySem PySem.Spec PyProof.Rows L2
theorem fmod_cmul (x : Int) : CMul (Int.fmod x 2147483647) (Int.fmod x 2147483647) := by
  have h0 : 0 ≤ Int.fmod x 2147483647 := Int.fmod_nonneg_of_pos _ (by decide)
  have h1 : Int.fmod x 2147483647 < 2147483647 := Int.fmod_lt_of_pos _ (by decide)
  exact .inl ⟨by omega, by omega⟩
section
variable {P : Program} {w : World} {K : PySem.W.Frag} {mg : Str → Option Value} {base : Heap}
def spCell (K : PySem.W.Frag) : Sp := fun vs H Q _ => ∃ (a : Addr) (ns : List Int) (k : Nat), vs = [.ref a, .int (k : Int)] ∧ SqL K H a (ns.map V.int) ∧ ∀ c : Int, Q (.int c) H
theorem k_cell (T : Txt w K mg) : Kp P w K mg base CX0 1 (He.fAd K ("_law_cell_at", none)) P_law_cell_at (spCell K) := by
  refine Kp.of T.d_law_cell_at sc_law_cell_at bn_law_cell_at (fun vs H Q E h => ?_) (fun f cdv A outer s H vs Q E hr h => ?_)
  · obtain ⟨a, ns, k, rfl, _⟩ := h
    rfl
  · obtain ⟨a, ns, k, rfl, hS, q⟩ := h
    refine ⟨_, (pss_cons (ps_if (pt_cmpR op_lt (pv 1) (pe_callB call_len_seq rfl T.f_len (by decide +kernel) (pa_cons (pv 0) pa_nil)) (nomark _)) (pss_one (ps_ret (pe_ix ix_list (pv 0) (pv 1) (fun _ _ => rfl)))) pss_nil)
      (pss_one (ps_ret pe_int))), ?_⟩
    refine ⟨_, rfl, _, rfl, a, _, rfl, .inl hS, _, _, rfl, rfl, _, rfl, ?_⟩
    refine ite2 (fun hlt => ?_) (fun _ => q 0)
    have hk : k < ns.length := by
      have := of_decide_eq_true hlt
      rw [List.length_map] at this
      omega
    refine ⟨_, rfl, _, rfl, a, _, (k : Int), .int ns[k], rfl, rfl, hS, atI_nat ?_, q _⟩
    rw [List.getElem?_map, List.getElem?_eq_getElem hk]
    rfl
def spPot : Sp := fun vs H Q _ => ∃ c : Int, vs = [.int c] ∧ ∀ p v, H p = none → Q (.ref p) (upd H p (.lst [.int v]))
theorem k_pot (T : Txt w K mg) : Kp P w K mg base CX0 1 (He.fAd K ("_law_pot", none)) P_law_pot spPot := by
  refine Kp.of T.d_law_pot sc_law_pot bn_law_pot (fun vs H Q E h => ?_) (fun f cdv A outer s H vs Q E hr h => ?_)
  · obtain ⟨c, rfl, _⟩ := h
    rfl
  · obtain ⟨c, rfl, q⟩ := h
    refine ⟨_, (pss_cons (ps_if (pt_cmpR op_ge (pv 0) (pe_op op_pow pe_int pe_int) (nomark _)) (pss_one (ps_ret (pe_lst (pa_cons (pe_op op_sub (pv 0) (pe_op op_pow pe_int pe_int)) pa_nil)))) pss_nil)
      (pss_cons (ps_set (i := 1) sc_law_pot.nd rfl (by first | exact Or.inl rfl | exact Or.inr rfl) pe_int)
      (pss_cons (ps_for (L2.passes_of rfl) rfl (pi_range1 rfl T.f_range (pa_cons pe_int pa_nil)) (pg_name (i := 2) sc_law_pot.nd rfl (by first | exact Or.inl rfl | exact Or.inr rfl)) (pss_cons (ps_set (i := 3) sc_law_pot.nd rfl (by first | exact Or.inl rfl | exact Or.inr rfl) (pe_op op_modN (pe_op op_mul (pe_op op_add (pe_op op_add (pe_op op_modN (pv 0) pe_int) (pe_op op_mul pe_int (pv 2))) pe_int) pe_int) pe_int))
      (pss_cons (ps_set (i := 3) sc_law_pot.nd rfl (by first | exact Or.inl rfl | exact Or.inr rfl) (pe_op op_modN (pe_op op_add (pe_op op_add (pe_op op_mul (pv 3) (pv 3)) (pe_op op_mul pe_int (pv 2))) pe_int) pe_int))
      (pss_one (ps_set (i := 1) sc_law_pot.nd rfl (by first | exact Or.inl rfl | exact Or.inr rfl) (pe_op op_add (pe_op op_mul (pv 1) pe_int) (pv 3)))))))
      (pss_one (ps_ret (pe_lst (pa_cons (pv 1) pa_nil))))))), ?_⟩
    have cp : CPow 10 18 := ⟨by decide, by decide, by decide⟩
    refine ⟨_, rfl, _, _, rfl, rfl, cp, _, _, rfl, rfl, _, rfl, ?_⟩
    refine ite2 (fun _ => ?_) (fun _ => ?_)
    · exact ⟨_, rfl, _, _, rfl, rfl, cp, _, _, rfl, rfl, size_of (by show 1 ≤ 16000000; decide), fun p hp => q p _ hp⟩
    · refine ⟨64, rfl, by decide, by decide, ?_⟩
      refine for_it walk_range (fun i σ H' => H' = H ∧ ∃ (n : Int) (j m : Option V), σ = [some (.int c), some (.int n), j, m]) ⟨rfl, 0, none, none, rfl⟩ (fun _ _ _ _ _ => trivial) ?_ ?_
      · rintro i x σ H1 H2 hi ⟨rfl, n, j, m, rfl⟩ ⟨rfl, rfl⟩
        refine ⟨_, rfl, _, _, rfl, rfl, (show (2147483629 : Int) ≠ 0 by decide), _, rfl, _, _, rfl, rfl, .inl ⟨by decide, by decide⟩, _, _, rfl, rfl, _, _, rfl, rfl, _, _, rfl, rfl, .inr ⟨by decide, by decide⟩, _, _, rfl, rfl, (show (2147483647 : Int) ≠ 0 by decide), ?_⟩
        refine ⟨_, rfl, _, rfl, _, _, rfl, rfl, fmod_cmul _, _, rfl, _, _, rfl, rfl, .inl ⟨by decide, by decide⟩, _, _, rfl, rfl, _, _, rfl, rfl, _, _, rfl, rfl, (show (2147483587 : Int) ≠ 0 by decide), ?_⟩
        exact ⟨_, rfl, _, _, rfl, rfl, .inr ⟨by decide, by decide⟩, _, rfl, _, _, rfl, rfl, rfl, _, _, _, rfl⟩
      · rintro σ H1 ⟨rfl, n, j, m, rfl⟩
        exact ⟨_, rfl, size_of (by show 1 ≤ 16000000; decide), fun p hp => q p _ hp⟩
def spTake : Sp := fun vs H Q _ => ∃ (p : Addr) (far v : Int), vs = [.ref p, .int far] ∧ H p = some (.lst [.int v]) ∧ 0 < far ∧ far < 1073741824 ∧ ∀ (k : Nat) v', (k : Int) < far → Q (.int (k : Int)) (upd H p (.lst [.int v']))
theorem k_take (T : Txt w K mg) : Kp P w K mg base CX0 1 (He.fAd K ("_law_take", none)) P_law_take spTake := by
  refine Kp.of T.d_law_take sc_law_take bn_law_take (fun vs H Q E h => ?_) (fun f cdv A outer s H vs Q E hr h => ?_)
  · obtain ⟨p, far, v, rfl, _⟩ := h
    rfl
  · obtain ⟨p, far, v, rfl, hp, f0, f1, q⟩ := h
    refine ⟨_, (pss_cons (ps_set (i := 2) sc_law_take.nd rfl (by first | exact Or.inl rfl | exact Or.inr rfl) (pe_op op_modN (pe_ix ix_list (pv 0) pe_int (fun _ _ => rfl)) (pv 1)))
      (pss_cons (ps_asg (pe_op op_fdivN (pe_ix ix_list (pv 0) pe_int (fun _ _ => rfl)) (pv 1)) (pg_sub (pv 0) pe_int set_list))
      (pss_one (ps_ret (pv 2))))), ?_⟩
    refine ⟨_, rfl, p, _, ((0 : Nat) : Int), .int v, rfl, rfl, SqL.of hp, atI_nat rfl, _, rfl, _, _, rfl, rfl, by omega, ?_⟩
    have k0 : 0 ≤ Int.fmod v far := Int.fmod_nonneg_of_pos _ f0
    have k1 : Int.fmod v far < far := Int.fmod_lt_of_pos _ f0
    obtain ⟨k, ek⟩ := Int.eq_ofNat_of_zero_le k0
    refine ⟨_, rfl, p, _, ((0 : Nat) : Int), .int v, rfl, rfl, SqL.of hp, atI_nat rfl, _, rfl, _, _, rfl, rfl, ⟨by omega, by omega⟩, _, rfl, p, _, _, 0, rfl, rfl, hp, rfl, _, rfl, ?_⟩
    show Q (.int (Int.fmod v far)) (upd H p (.lst [.int (Int.fdiv v far)]))
    rw [ek]
    exact q k _ (by rw [ek] at k1; exact k1)
end
end Tg

namespace Tg
open PySem PySem.Spec PyProof.Rows L2
/-! ### lists of texts as data -/
theorem dpAll_strs {K : PySem.W.Frag} {H : Hp} : ∀ l : List Str, DpAll K H (l.map V.str) (l.map PyData.str)
  | [] => .nil
  | x :: r => .cons (.str x) (dpAll_strs r)
theorem depth_strs : ∀ l : List Str, PyData.depthAll (l.map PyData.str) ≤ 1
  | [] => by simp [PyData.depthAll]
  | x :: r => by
    have h := depth_strs r
    simp only [List.map_cons, PyData.depthAll, PyData.depth]
    omega
theorem shaped_strs {l : List Str} (h : ∀ x ∈ l, PyData.strOk x = true) : SeqAt.shaped (.list (l.map PyData.str)) = true := by
  have h1 := depth_strs l
  show ((PyData.list (l.map PyData.str)).canLay0 && decide ((PyData.list (l.map PyData.str)).depth ≤ 64)) = true
  rw [Bool.and_eq_true]
  refine ⟨?_, decide_eq_true (by simp only [PyData.depth]; omega)⟩
  simp only [PyData.canLay0]
  rw [canLayAll_strs', List.all_eq_true]
  exact h
theorem eqv_nil : ∀ l : List Str, PyData.eqv (.list (l.map PyData.str)) (.list []) = l.isEmpty
  | [] => by simp [PyData.eqv, PyData.eqvAll]
  | x :: r => by simp [PyData.eqv, PyData.eqvAll]
theorem lt_one (a b : Nat) : decide (([a] : List Nat) < [b]) = decide (a < b) := by
  rw [decide_eq_decide, List.cons_lt_cons_iff]
  simp
theorem mem_join {x y : Str} {c : Nat} : ∀ {l : List Str}, x ∈ l → c ∈ x.cps.toList → c ∈ (Str.join y l).cps.toList
  | [], h, _ => absurd h (by simp)
  | [a], h, hc => by
    rw [List.mem_singleton.mp h] at hc
    exact hc
  | a :: b :: r, h, hc => by
    show c ∈ ((a ++ y ++ Str.join y (b :: r) : Str)).cps.toList
    rw [app_list, app_list]
    rcases List.mem_cons.mp h with e | h
    · rw [e] at hc
      exact List.mem_append_left _ (List.mem_append_left _ hc)
    · exact List.mem_append_right _ (mem_join h hc)
theorem words_ok {t x : Str} (h : x ∈ wordsOf t) (ok : PyData.strOk t = true) : PyData.strOk x = true := strOk_of fun c hc => by
  refine strOk_at ok c ?_
  rw [← words_join t]
  exact mem_join h hc
theorem strOk_cut {t : Str} {lo hi : Option Int} (ok : PyData.strOk t = true) : PyData.strOk (cutS t lo hi) = true := strOk_of fun c hc => strOk_at ok c (cutS_mem hc)
/-- the signs that a list comprehension keeps -/
def keptL (f : Nat → Bool) (l : List Nat) : List Str := (l.filter f).map fun c => ⟨#[c]⟩
theorem keptL_snoc (f : Nat → Bool) (l : List Nat) (c : Nat) : keptL f (l ++ [c]) = if f c = true then keptL f l ++ [⟨#[c]⟩] else keptL f l := by
  unfold keptL
  rw [List.filter_append, List.map_append]
  by_cases h : f c = true
  · rw [if_pos h, List.filter_cons, if_pos h]
    rfl
  · rw [if_neg h, List.filter_cons, if_neg h]
    simp
theorem keptL_len (f : Nat → Bool) (l : List Nat) : (keptL f l).length ≤ l.length := by
  unfold keptL
  rw [List.length_map]
  exact List.length_filter_le _ _
theorem keptL_ok {f : Nat → Bool} {x : Str} (ok : PyData.strOk x = true) : ∀ z ∈ keptL f x.cps.toList, PyData.strOk z = true := fun z hz => by
  unfold keptL at hz
  obtain ⟨c, hc, rfl⟩ := List.mem_map.mp hz
  have := strOk_at ok c (List.mem_filter.mp hc).1
  exact strOk_of fun d hd => by
    have : d = c := by simpa using hd
    omega
theorem keptL_nil {f : Nat → Bool} {l : List Nat} : (keptL f l).isEmpty = l.all (fun c => !f c) := by
  unfold keptL
  rw [Bool.eq_iff_iff, List.isEmpty_iff, List.map_eq_nil_iff, List.filter_eq_nil_iff, List.all_eq_true]
  exact ⟨fun h c hc => by simpa using h c hc, fun h c hc => by simpa using h c hc⟩
theorem digits_bound : ∀ (l : List Nat) (a : Nat), NumText.AllDigits l → l.foldl (fun acc c => acc * 10 + (c - 48)) a < (a + 1) * 10 ^ l.length
  | [], a, _ => by simp
  | c :: r, a, h => by
    have hc := h.head
    have ih := digits_bound r (a * 10 + (c - 48)) h.tail
    rw [List.foldl_cons, List.length_cons, Nat.pow_succ]
    refine Nat.lt_of_lt_of_le ih ?_
    have e : (a + 1) * (10 ^ r.length * 10) = ((a + 1) * 10) * 10 ^ r.length := by rw [Nat.mul_comm (10 ^ r.length) 10, Nat.mul_assoc]
    rw [e]
    exact Nat.mul_le_mul_right _ (by omega)
theorem hu64_of {k : Nat} {A : Around} (hr : Room k A) : A.units + 64 < cLine := by
  have := hr.un
  omega
section
variable {P : Program} {w : World} {K : PySem.W.Frag} {mg : Str → Option Value} {base : Heap}
def spLawNumber : Sp := fun vs H Q _ => ∃ (x : Str) (most : Int), vs = [.str x, .int most] ∧ x.length ≤ 5000 ∧ PyData.strOk x = true ∧ ∀ H', Evl.Ex H H' → Q (.bl (numB x most)) H'
theorem k_law_number (T : Txt w K mg) : Kp P w K mg base CX0 1 (He.fAd K ("_law_number", none)) P_law_number spLawNumber := by
  refine Kp.of T.d_law_number sc_law_number bn_law_number (fun vs H Q E h => ?_) (fun f cdv A outer s H vs Q E hr h => ?_)
  · obtain ⟨x, most, rfl, _⟩ := h
    rfl
  · obtain ⟨x, most, rfl, hl, ok, q⟩ := h
    have hu64 := hu64_of hr
    refine ⟨_, (pss_cons (ps_if (PW.pt (pw_or (pt_cmpR op_eq (pv 0) pe_str (nomark _)) (pw_or (pt_cmpR op_gt (pe_callB call_len_str rfl T.f_len (by decide +kernel) (pa_cons (pv 0) pa_nil)) pe_int (nomark _)) (pw_or1 (pt_cmpR (op_neD hu64) (pe_lc (own := [("sign", 2)]) (g := gName 2) (by rfl) sc_law_number.nd (pi_str (pv 0)) (blkOk_by (own := [("sign", 2)]) (N := N_law_number) (sc := defScope s_law_number) (by decide +kernel)) (fun _ _ _ _ _ => pg_name (i := 2) sc_law_number.nd rfl (by first | exact Or.inl rfl | exact Or.inr rfl)) (fun _ _ _ _ _ => (pts_one (pt_not (pt_chain op_le_str op_le_str pe_str (pv 2) pe_str)))) (fun _ _ _ _ _ => (pv 2))) (pe_lst pa_nil) (nomark _)))))) (pss_one (ps_ret pe_bl)) pss_nil)
      (pss_one (ps_ret (pe_and (pe_cmpR op_eq (pe_callTy call_str_int rfl T.f_str (by decide +kernel) (pa_cons (pe_callTy call_int_str rfl T.f_int (by decide +kernel) (pa_cons (pv 0) pa_nil)) pa_nil)) (pv 0) (nomark _)) (pe_one (pe_cmpR op_le (pe_callTy call_int_str rfl T.f_int (by decide +kernel) (pa_cons (pv 0) pa_nil)) (pv 1) (nomark _))))))), ?_⟩
    have q0 := fun (e : numB x most = false) => by
      have z := q H (Evl.Ex.refl H)
      rw [e] at z
      exact z
    refine ⟨_, rfl, rfl, _, rfl, ?_⟩
    refine ite2 (fun h0 => ?_) (fun h0 => ?_)
    · have h0 : x = "" := by simpa using h0
      refine q0 ?_
      rw [h0]
      unfold numB
      rw [empty_len]
      rfl
    have h0 : ¬ x = "" := by simpa using h0
    have h1 : 1 ≤ x.length := by
      by_cases z : x.length = 0
      · exact absurd (len_zero z) h0
      · omega
    refine ⟨_, rfl, _, rfl, size_of (by omega), _, _, rfl, rfl, _, rfl, ?_⟩
    refine ite2 (fun h4 => ?_) (fun h4 => ?_)
    · have h4 : ¬ x.length ≤ 4 := by
        have z : (4 : Int) < (x.length : Int) := by simpa using h4
        omega
      refine q0 ?_
      unfold numB
      rw [decide_eq_false h4]
      simp
    have h4 : x.length ≤ 4 := by
      have z : ¬ (4 : Int) < (x.length : Int) := by simpa using h4
      omega
    have nf : ∀ c : Nat, (!(decide (48 ≤ c ∧ c ≤ 57))) = !(decide (48 ≤ c) && decide (c ≤ 57)) := fun c => by
      rw [Bool.decide_and]
    refine ⟨_, rfl, x, rfl, fun D hD => lc_it walk_str (fun i H' => Evl.Ex H H' ∧ H' D = some (.lst ((keptL (fun c => !(decide (48 ≤ c ∧ c ≤ 57))) (x.cps.toList.take i)).map V.str))) ⟨Evl.Ex.new hD, upd_same⟩ (fun _ _ _ _ => trivial) ?_ ?_⟩
    · rintro i y H1 H2 hi ⟨ex, hDl⟩ ⟨rfl, c, hc, rfl⟩
      have hcl : x.cps.toList[i]? = some c := by simpa using hc
      have et : x.cps.toList.take (i + 1) = x.cps.toList.take i ++ [c] := by
        rw [List.take_succ, hcl]
        rfl
      refine ⟨rfl, ?_⟩
      have stop : 48 ≤ c ∧ c ≤ 57 → (Evl.Ex H H2 ∧ H2 D = some (.lst ((keptL (fun c => !(decide (48 ≤ c ∧ c ≤ 57))) (x.cps.toList.take (i + 1))).map V.str))) := fun hd => by
        refine ⟨ex, ?_⟩
        rw [et, keptL_snoc, if_neg (by rw [decide_eq_true hd]; simp)]
        exact hDl
      have go : ¬ (48 ≤ c ∧ c ≤ 57) → ∃ acc, H2 D = some (.lst acc) ∧ acc.length < sizeLine ∧ (Evl.Ex H (upd H2 D (.lst (acc ++ [.str ⟨#[c]⟩]))) ∧ upd H2 D (.lst (acc ++ [.str ⟨#[c]⟩])) D = some (.lst ((keptL (fun c => !(decide (48 ≤ c ∧ c ≤ 57))) (x.cps.toList.take (i + 1))).map V.str))) := fun hd => by
        refine ⟨_, hDl, ?_, Evl.Ex.mut ex hD, ?_⟩
        · rw [List.length_map]
          have z := keptL_len (fun c => !(decide (48 ≤ c ∧ c ≤ 57))) (x.cps.toList.take i)
          have z2 : (x.cps.toList.take i).length ≤ x.cps.toList.length := by
            rw [List.length_take]
            exact Nat.min_le_right _ _
          rw [len_list] at z2
          exact size_lt (by omega)
        · rw [upd_same, et, keptL_snoc, if_pos (by rw [decide_eq_false hd]; rfl), List.map_append]
          rfl
      refine ⟨_, rfl, "0", ⟨#[c]⟩, rfl, rfl, _, rfl, ?_⟩
      have ez : ("0" : Str).cps.toList = [48] := zero_list
      have en : ("9" : Str).cps.toList = [57] := by decide +kernel
      refine ite2 (fun ha => ?_) (fun ha => ?_)
      · have ha : (!decide (([c] : List Nat) < ("0" : Str).cps.toList)) = true := ha
        rw [ez, lt_one] at ha
        have ha : ¬ c < 48 := by simpa using ha
        refine ⟨⟨#[c]⟩, "9", rfl, rfl, _, rfl, ?_⟩
        show if (!(!decide (("9" : Str).cps.toList < ([c] : List Nat)))) = true then _ else _
        rw [en, lt_one]
        by_cases hb : 57 < c
        · rw [decide_eq_true hb]
          exact iteT ⟨_, rfl, go (by omega)⟩
        · rw [decide_eq_false hb]
          exact iteF (stop ⟨by omega, by omega⟩)
      · have ha : ¬ (!decide (([c] : List Nat) < ("0" : Str).cps.toList)) = true := ha
        rw [ez, lt_one] at ha
        have ha : c < 48 := by simpa using ha
        exact ⟨_, rfl, iteT ⟨_, rfl, go (by omega)⟩⟩
    · rintro H1 ⟨ex, hDl⟩
      rw [List.take_of_length_le (by rw [len_list]; exact Nat.le_refl _)] at hDl
      refine ⟨size_of (by show 0 ≤ 16000000; decide), fun p hp => ?_⟩
      have ex2 := ex.trans (Evl.Ex.new (o := .lst []) hp)
      have hDl2 := Evl.Ex.new (o := .lst []) hp _ _ hDl
      refine ⟨_, .list [], .lst (SqL.of hDl2) (dpAll_strs _), .lst (SqL.of upd_same) .nil, shaped_strs (keptL_ok ok), by decide, _, rfl, ?_⟩
      rw [eqv_nil, keptL_nil]
      have eall : x.cps.toList.all (fun c => !(!(decide (48 ≤ c ∧ c ≤ 57)))) = x.cps.toList.all (fun c => decide (48 ≤ c ∧ c ≤ 57)) := by
        congr 1
        funext c
        rw [Bool.not_not]
      rw [eall]
      have q2 := q _ ex2
      refine ite2 (fun ha => ?_) (fun ha => ?_)
      · have ha : x.cps.toList.all (fun c => decide (48 ≤ c ∧ c ≤ 57)) = false := by simpa using ha
        have e : numB x most = false := by
          unfold numB
          rw [ha]
          simp
        rw [e] at q2
        exact q2
      · have ha : x.cps.toList.all (fun c => decide (48 ≤ c ∧ c ≤ 57)) = true := by
          cases z : x.cps.toList.all (fun c => decide (48 ≤ c ∧ c ≤ 57)) with
          | true => rfl
          | false => rw [z] at ha; exact absurd rfl ha
        have hnt := num_text h1 ha
        have e : numB x most = ((decide (x.cps.toList.head? ≠ some 48) || decide (x = "0")) && decide (((NumText.digitsVal x.cps.toList : Nat) : Int) ≤ most)) := by
          unfold numB
          rw [decide_eq_true h1, decide_eq_true h4, ha]
          rfl
        rw [e] at q2
        have hv : ((NumText.digitsVal x.cps.toList : Nat) : Int).natAbs.log2 < 1920 := by
          have b := digits_bound x.cps.toList 0 (by
            intro c hc
            rw [List.all_eq_true] at ha
            exact of_decide_eq_true (ha c hc))
          have b2 : (10 : Nat) ^ x.cps.toList.length ≤ 10 ^ 4 := Nat.pow_le_pow_right (by decide) (by rw [len_list]; exact h4)
          have b3 : NumText.digitsVal x.cps.toList < (0 + 1) * 10 ^ x.cps.toList.length := b
          exact log_small (by omega) (by omega)
        refine ⟨_, rfl, x, _, rfl, num_int h1 h4 ha, by omega, _, rfl, hv, _, rfl, rfl, _, rfl, ?_⟩
        refine ite2 (fun hs => ?_) (fun hs => ?_)
        · have hs : Str.ofString (toString ((NumText.digitsVal x.cps.toList : Nat) : Int)) = x := by simpa using hs
          have hz : (decide (x.cps.toList.head? ≠ some 48) || decide (x = "0")) = true := by
            rw [Bool.or_eq_true, decide_eq_true_eq, decide_eq_true_eq]
            exact hnt.mp hs
          rw [hz, Bool.true_and] at q2
          exact ⟨_, rfl, x, _, rfl, num_int h1 h4 ha, by omega, _, rfl, _, _, rfl, rfl, q2⟩
        · have hs : ¬ Str.ofString (toString ((NumText.digitsVal x.cps.toList : Nat) : Int)) = x := by simpa using hs
          have hz : (decide (x.cps.toList.head? ≠ some 48) || decide (x = "0")) = false := by
            rw [Bool.or_eq_false_iff, decide_eq_false_iff_not, decide_eq_false_iff_not]
            exact ⟨fun z => hs (hnt.mpr (.inl z)), fun z => hs (hnt.mpr (.inr z))⟩
          rw [hz, Bool.false_and] at q2
          exact q2
end
end Tg

namespace Tg
open PySem PySem.Spec PyProof.Rows L2
theorem machW_cons (f : Str) (r : List Str) : machW (f :: r) = (decide (1 ≤ r.length) && decide (r.length ≤ 8) && (decide (f ∈ fronts) && r.all (wordB r.length))) := rfl
theorem len_seqK {X : Cx} {K : PySem.W.Frag} (h : X.K = K) : CallR X (.builtin "len") (fun xs H Q => ∃ p ys, xs = [V.ref p] ∧ (SqL K H p ys ∨ SqT K H p ys) ∧ Q (V.int ((ys.length : Nat) : Int)) H) := by
  subst h
  exact call_len_seq
section
variable {P : Program} {w : World} {K : PySem.W.Frag} {mg : Str → Option Value} {base : Heap}
def spLawMach : Sp := fun vs H Q _ => ∃ (t : Str), vs = [.str t] ∧ t.length ≤ 5000 ∧ PyData.strOk t = true ∧ ∀ H', Evl.Ex H H' → Q (.bl (machW (wordsOf t))) H'
theorem k_law_mach (T : Txt w K mg) : Kp P w K mg base CX0 1 (He.fAd K ("_law_is_machine_text", none)) P_law_is_machine_text spLawMach := by
  refine Kp.of T.d_law_is_machine_text sc_law_is_machine_text bn_law_is_machine_text (fun vs H Q E h => ?_) (fun f cdv A outer s H vs Q E hr h => ?_)
  · obtain ⟨t, rfl, _⟩ := h
    rfl
  · obtain ⟨t, rfl, hl, ok, q⟩ := h
    have hu64 := hu64_of hr
    refine ⟨_, (pss_cons (ps_set (i := 1) sc_law_is_machine_text.nd rfl (by first | exact Or.inl rfl | exact Or.inr rfl) (pe_split (pv 0) pe_str))
      (pss_cons (ps_if (PW.pt (pw_or (pt_not (pt_chain op_le op_le pe_int (pe_callB (len_seqK (K := K) rfl) rfl T.f_len (by decide +kernel) (pa_cons (pv 1) pa_nil)) pe_int)) (pw_or1 (pt_cmpR op_notIn_seq (pe_ix ix_list (pv 1) pe_int (fun _ _ => rfl)) (pe_tup (pa_cons pe_str (pa_cons pe_str (pa_cons pe_str (pa_cons pe_str pa_nil))))) (by rfl))))) (pss_one (ps_ret pe_bl)) pss_nil)
      (pss_cons (ps_for (L2.passes_of rfl) rfl (pi_list (pe_slice sl_list (pv 1) (po_some pe_int) po_none)) (pg_name (i := 2) sc_law_is_machine_text.nd rfl (by first | exact Or.inl rfl | exact Or.inr rfl)) (pss_cons (ps_if (PW.pt (pw_or (pt_cmpR op_eq (pv 2) pe_str (nomark _)) (pw_or1 (PW.pt (pw_and (pt_cmpR op_ne (pv 2) pe_str (nomark _)) (pw_and1 (pt_cmpR op_gt (pe_callB call_len_str rfl T.f_len (by decide +kernel) (pa_cons (pv 2) pa_nil)) pe_int (nomark _)))))))) (pss_one (ps_ret pe_bl)) pss_nil)
      (pss_one (ps_if (PW.pt (pw_and (pt_cmpR op_ne (pv 2) pe_str (nomark _)) (pw_and1 (pt_cmpR (op_neD hu64) (pe_lc (own := [("sign", 3)]) (g := gName 3) (by rfl) sc_law_is_machine_text.nd (pi_str (pv 2)) (blkOk_by (own := [("sign", 3)]) (N := N_law_is_machine_text) (sc := defScope s_law_is_machine_text) (by decide +kernel)) (fun _ _ _ _ _ => pg_name (i := 3) sc_law_is_machine_text.nd rfl (by first | exact Or.inl rfl | exact Or.inr rfl)) (fun _ _ _ _ _ => (pts_one (pt_cmpR op_notIn_sign (pv 3) (pe_slice sl_str pe_str po_none (po_some (pe_op op_sub (pe_callB (len_seqK (K := K) rfl) rfl T.f_len (by decide +kernel) (pa_cons (pv 1) pa_nil)) pe_int))) (by rfl)))) (fun _ _ _ _ _ => (pv 3))) (pe_lst pa_nil) (nomark _))))) (pss_one (ps_ret pe_bl)) pss_nil))))
      (pss_one (ps_ret pe_bl))))), ?_⟩
    refine ⟨_, rfl, ⟨_, rfl⟩, t, " ", rfl, rfl, (by decide +kernel), size_of (by omega), fun p hp => ?_⟩
    show gName 1 (V.ref p) _ (upd H p (.lst ((wordsOf t).map V.str))) _
    have hwl := words_len t
    have hws : ∀ x ∈ wordsOf t, x.length ≤ 5000 := fun x hx => Nat.le_trans (words_short hx) hl
    have hwo : ∀ x ∈ wordsOf t, PyData.strOk x = true := fun x hx => words_ok hx ok
    have hne := words_ne t
    generalize wordsOf t = ws at *
    cases ws with
    | nil => exact absurd rfl hne
    | cons f r =>
      have ex1 := Evl.Ex.new (o := .lst ((f :: r).map V.str)) hp
      have hp1 : upd H p (.lst ((f :: r).map V.str)) p = some (.lst ((f :: r).map V.str)) := upd_same
      have hH1 : ∃ H1, H1 = upd H p (.lst ((f :: r).map V.str)) := ⟨_, rfl⟩
      obtain ⟨H1, eH1⟩ := hH1
      rw [← eH1] at ex1 hp1 ⊢
      have hlen : (((f :: r).map V.str).length : Int) = ((r.length + 1 : Nat) : Int) := by simp
      have no := fun (e : machW (f :: r) = false) (H' : Hp) (ex : Evl.Ex H H') => by
        have z := q H' ex
        rw [e] at z
        exact z
      refine ⟨_, rfl, p, _, rfl, .inl (SqL.of hp1), 2, _, rfl, rfl, _, rfl, ?_⟩
      rw [hlen]
      by_cases h1 : 1 ≤ r.length
      · rw [if_pos (by rw [decide_eq_true_eq]; omega)]
        refine ⟨_, 9, rfl, rfl, _, rfl, ?_⟩
        by_cases h8 : r.length ≤ 8
        · rw [decide_eq_true (show ((r.length + 1 : Nat) : Int) ≤ 9 by omega)]
          refine iteF ?_
          refine ⟨_, rfl, p, _, ((0 : Nat) : Int), .str f, rfl, rfl, SqL.of hp1, atI_nat rfl, size_of (by show 4 ≤ 16000000; decide), fun tp htp => ?_⟩
          have ex2 := ex1.trans (Evl.Ex.new (o := .tup [.str "1", .str "2", .str "3", .str "4"]) htp)
          have hp2 := Evl.Ex.new (o := .tup [.str "1", .str "2", .str "3", .str "4"]) htp _ _ hp1
          refine ⟨tp, _, rfl, .inr (SqT.of upd_same), rfl, rfl, _, rfl, ?_⟩
          refine ite2 (fun hf => ?_) (fun hf => ?_)
          · have hf : (!inV (.str f) (fronts.map V.str)) = true := hf
            rw [inV_strs] at hf
            have hf : decide (f ∈ fronts) = false := by simpa using hf
            exact no (by rw [machW_cons, hf]; simp) _ ex2
          · have hf : ¬ (!inV (.str f) (fronts.map V.str)) = true := hf
            rw [inV_strs] at hf
            have hf : f ∈ fronts := by simpa using hf
            have em : machW (f :: r) = r.all (wordB r.length) := by
              rw [machW_cons, decide_eq_true h1, decide_eq_true h8, decide_eq_true hf]
              rfl
            refine ⟨_, rfl, 1, rfl, p, _, rfl, SqL.of hp2, fun p2 hpn2 => ?_⟩
            rw [show cutV ((f :: r).map V.str) (some 1) none = r.map V.str from cutV_one _ _]
            have ex3 := ex2.trans (Evl.Ex.new (o := .lst (r.map V.str)) hpn2)
            have hp3 := Evl.Ex.new (o := .lst (r.map V.str)) hpn2 _ _ hp2
            have hq3 : upd (upd H1 tp (.tup [.str "1", .str "2", .str "3", .str "4"])) p2 (.lst (r.map V.str)) p2 = some (.lst (r.map V.str)) := upd_same
            have hH3 : ∃ H3, H3 = upd (upd H1 tp (.tup [.str "1", .str "2", .str "3", .str "4"])) p2 (.lst (r.map V.str)) := ⟨_, rfl⟩
            obtain ⟨H3, eH3⟩ := hH3
            rw [← eH3] at ex3 hp3 hq3 ⊢
            refine ⟨p2, rfl, ⟨_, SqL.of hq3⟩, ?_⟩
            refine for_it (walk_list (xs := r.map V.str)) (fun i σ H' => Evl.Ex H3 H' ∧ (∃ v2 v3 : Option V, σ = [some (.str t), some (.ref p), v2, v3]) ∧ ∀ x ∈ r.take i, wordB r.length x = true) ⟨Evl.Ex.refl _, ⟨none, none, rfl⟩, fun x hx => by simp at hx⟩ (fun i σ H' _ z => SqL.of (z.1 _ _ hq3)) ?_ ?_
            · rintro i x σ Hx Hx' hi ⟨ex4, ⟨v2, v3, rfl⟩, hall⟩ ⟨rfl, hx⟩
              have hiw : i < r.length := by simpa using hi
              have hxw : x = .str r[i] := by
                rw [List.getElem?_map, List.getElem?_eq_getElem hiw] at hx
                exact (Option.some.inj hx).symm
              subst hxw
              have hin : r[i] ∈ r := List.getElem_mem hiw
              have hxl := hws r[i] (List.mem_cons_of_mem _ hin)
              have hxo := hwo r[i] (List.mem_cons_of_mem _ hin)
              have hti : r.take (i + 1) = r.take i ++ [r[i]] := by
                rw [List.take_succ, List.getElem?_eq_getElem hiw]
                rfl
              generalize r[i] = y at *
              have bad : wordB r.length y = false → machW (f :: r) = false := fun e => by
                rw [em, List.all_eq_false]
                exact ⟨y, hin, by rw [e]; simp⟩
              have good : ∀ Hy, Evl.Ex Hx' Hy → wordB r.length y = true → (Evl.Ex H3 Hy ∧ (∃ w2 w3 : Option V, ([some (.str t), some (.ref p), some (.str y), v3] : L2.St) = [some (.str t), some (.ref p), w2, w3]) ∧ ∀ x ∈ r.take (i + 1), wordB r.length x = true) := fun Hy exy e => by
                refine ⟨ex4.trans exy, ⟨_, _, rfl⟩, fun x hx => ?_⟩
                rw [hti] at hx
                rcases List.mem_append.mp hx with h | h
                · exact hall x h
                · rw [List.mem_singleton.mp h]
                  exact e
              refine ⟨_, rfl, rfl, _, rfl, ?_⟩
              refine ite2 (fun h0 => ?_) (fun h0 => ?_)
              · have h0 : y = "" := by simpa using h0
                exact no (bad (by rw [h0]; exact wordB_no _)) _ (ex3.trans ex4)
              have h0 : ¬ y = "" := by simpa using h0
              refine ⟨_, rfl, rfl, _, rfl, ?_⟩
              refine ite2 (fun hd => ?_) (fun hd => ?_)
              · have hd : ¬ y = "-" := by simpa using hd
                refine ⟨_, rfl, _, rfl, size_of (by omega), _, _, rfl, rfl, _, rfl, ?_⟩
                refine ite2 (fun h8y => ?_) (fun h8y => ?_)
                · have h8y : ¬ y.length ≤ 8 := by
                    have z : (8 : Int) < (y.length : Int) := by simpa using h8y
                    omega
                  refine no (bad ?_) _ (ex3.trans ex4)
                  unfold wordB
                  rw [decide_eq_false hd, decide_eq_false h8y]
                  simp
                have h8y : y.length ≤ 8 := by
                  have z : ¬ (8 : Int) < (y.length : Int) := by simpa using h8y
                  omega
                refine ⟨_, rfl, rfl, _, rfl, ?_⟩
                refine ite2 (fun _ => ?_) (fun z => absurd (by simpa using hd) z)
                have ewb : wordB r.length y = allIn y (sg r.length) := by
                  unfold wordB
                  rw [decide_eq_false hd, decide_eq_true h0, decide_eq_true h8y]
                  rfl
                refine ⟨_, rfl, y, rfl, fun D hD => lc_it walk_str (fun i H' => Evl.Ex Hx' H' ∧ H' D = some (.lst ((keptL (fun c => !(decide (c ∈ (sg r.length).cps.toList))) (y.cps.toList.take i)).map V.str))) ⟨Evl.Ex.new hD, upd_same⟩ (fun _ _ _ _ => trivial) ?_ ?_⟩
                · rintro i x Ha Hb hi ⟨ex5, hDl⟩ ⟨rfl, c, hc, rfl⟩
                  have hcl : y.cps.toList[i]? = some c := by simpa using hc
                  have et : y.cps.toList.take (i + 1) = y.cps.toList.take i ++ [c] := by
                    rw [List.take_succ, hcl]
                    rfl
                  refine ⟨rfl, ?_⟩
                  refine ⟨_, rfl, _, rfl, p, _, rfl, .inl (SqL.of ((ex4.trans ex5) _ _ hp3)), _, _, rfl, rfl, _, rfl, _, rfl, size_of (by decide +kernel), c, _, rfl, rfl, _, rfl, ?_⟩
                  have ecut : cutS "abcdefgh" none (some ((((f :: r).map V.str).length : Int) - 1)) = sg r.length := by
                    rw [hlen, show ((r.length + 1 : Nat) : Int) - 1 = (r.length : Int) by omega]
                    exact cut_letters h8
                  rw [ecut]
                  refine ite2 (fun hin => ?_) (fun hin => ?_)
                  · refine ⟨_, rfl, _, hDl, ?_, Evl.Ex.mut ex5 hD, ?_⟩
                    · rw [List.length_map]
                      have z := keptL_len (fun c => !(decide (c ∈ (sg r.length).cps.toList))) (y.cps.toList.take i)
                      have z2 : (y.cps.toList.take i).length ≤ y.cps.toList.length := by
                        rw [List.length_take]
                        exact Nat.min_le_right _ _
                      rw [len_list] at z2
                      exact size_lt (by omega)
                    · rw [upd_same, et, keptL_snoc, if_pos hin, List.map_append]
                      rfl
                  · refine ⟨ex5, ?_⟩
                    rw [et, keptL_snoc, if_neg hin]
                    exact hDl
                · rintro Ha ⟨ex5, hDl⟩
                  rw [List.take_of_length_le (by rw [len_list]; exact Nat.le_refl _)] at hDl
                  refine ⟨size_of (by show 0 ≤ 16000000; decide), fun q1 hq1 => ?_⟩
                  have ex6 := Evl.Ex.new (o := .lst []) hq1
                  refine ⟨_, .list [], .lst (SqL.of (ex6 _ _ hDl)) (dpAll_strs _), .lst (SqL.of upd_same) .nil, shaped_strs (keptL_ok hxo), by decide, _, rfl, ?_⟩
                  rw [eqv_nil, keptL_nil]
                  have eall : y.cps.toList.all (fun c => !(!(decide (c ∈ (sg r.length).cps.toList)))) = allIn y (sg r.length) := by
                    unfold allIn
                    congr 1
                    funext c
                    rw [Bool.not_not]
                  rw [eall]
                  refine ite2 (fun ha => ?_) (fun ha => ?_)
                  · exact no (bad (by rw [ewb]; simpa using ha)) _ (ex3.trans (ex4.trans (ex5.trans ex6)))
                  · have ha : allIn y (sg r.length) = true := by
                      cases z : allIn y (sg r.length) with
                      | true => rfl
                      | false => rw [z] at ha; exact absurd rfl ha
                    exact good _ (ex5.trans ex6) (ewb.trans ha)
              · have hd : y = "-" := by simpa using hd
                refine ⟨_, rfl, rfl, _, rfl, ?_⟩
                refine ite2 (fun z => absurd hd (by simpa using z)) (fun _ => ?_)
                refine good _ (Evl.Ex.refl _) ?_
                unfold wordB
                rw [decide_eq_true hd]
                rfl
            · rintro σ Hx ⟨ex4, ⟨v2, v3, rfl⟩, hall⟩
              have z := q Hx (ex3.trans ex4)
              have e : machW (f :: r) = true := by
                rw [em, List.all_eq_true]
                intro x hx
                exact hall x (by rw [List.take_of_length_le (by simp)]; exact hx)
              rw [e] at z
              exact z
        · rw [decide_eq_false (show ¬ ((r.length + 1 : Nat) : Int) ≤ 9 by omega)]
          refine iteT (no ?_ _ ex1)
          rw [machW_cons, decide_eq_false h8]
          simp
      · rw [if_neg (by rw [decide_eq_true_eq]; omega)]
        refine ⟨_, rfl, iteT (no ?_ _ ex1)⟩
        rw [machW_cons, decide_eq_false h1]
        simp
end
end Tg

namespace Tg
open PySem PySem.Spec PyProof.Rows L2
def rowK (a : Str) (n : Nat) (x : Str) : Bool := decide (formN a = some n) && (match boundN a with | none => true | some m => numB x m)
theorem rowW_K {ws : List Str} (h : ("" : Str) ∉ ws) : rowW ws = rowK (ws.getD 0 "") ws.length (ws.getD 2 "") := by
  unfold rowW rowK lookW
  rw [decide_eq_true h, Bool.true_and]
  all_goals rfl
theorem rowK_free {a x : Str} {n k : Nat} (h : formN a = some k) (hb : boundN a = none) : rowK a n x = decide (n = k) := by
  unfold rowK
  rw [h, hb, Bool.and_true]
  rw [decide_eq_decide]
  exact ⟨fun z => (Option.some.inj z).symm, fun z => by rw [z]⟩
theorem rowK_num {a x : Str} {n : Nat} {m : Int} (hb : boundN a = some m) : rowK a n x = (decide (n = 3) && numB x m) := by
  unfold rowK
  rw [bound_form (by rw [hb]; simp), hb]
  congr 1
  rw [decide_eq_decide]
  exact ⟨fun z => (Option.some.inj z).symm, fun z => by rw [z]⟩
theorem rowK_none {a x : Str} {n : Nat} (h : formN a = none) : rowK a n x = false := by
  unfold rowK
  rw [h]
  rfl
theorem mem2 {a x y : Str} (h : decide (a ∈ ([x, y] : List Str)) = true) : a = x ∨ a = y := by
  simpa using h
section
variable {P : Program} {w : World} {K : PySem.W.Frag} {mg : Str → Option Value} {base : Heap}
def spLawRow : Sp := fun vs H Q _ => ∃ (t : Str), vs = [.str t] ∧ t.length ≤ 5000 ∧ PyData.strOk t = true ∧ ∀ H', Evl.Ex H H' → Q (.bl (rowB t)) H'
theorem k_law_row (T : Txt w K mg) : Kp P w K mg base CX0 2 (He.fAd K ("_law_is_row", none)) P_law_is_row spLawRow := by
  have G_law_is_machine_text := k_law_mach (P := P) (base := base) T
  have G_law_number := k_law_number (P := P) (base := base) T
  refine Kp.of T.d_law_is_row sc_law_is_row bn_law_is_row (fun vs H Q E h => ?_) (fun f cdv A outer s H vs Q E hr h => ?_)
  · obtain ⟨t, rfl, _⟩ := h
    rfl
  · obtain ⟨t, rfl, hl, ok, q⟩ := h
    have hu := hu_of hr
    refine ⟨_, (pss_cons (ps_set (i := 1) sc_law_is_row.nd rfl (by first | exact Or.inl rfl | exact Or.inr rfl) (pe_split (pv 0) pe_str))
      (pss_cons (ps_if (pt_cmpR op_eq (pe_ix ix_list (pv 1) pe_int (fun _ _ => rfl)) pe_str (nomark _)) (pss_one (ps_ret (pe_fn G_law_is_machine_text (hr.mono (by decide)) rfl T.g_law_is_machine_text pass0 (pa_cons (pe_slice sl_str (pv 0) (po_some pe_int) po_none) pa_nil)))) pss_nil)
      (pss_cons (ps_if (pt_cmpR op_in_seq pe_str (pv 1) (by rfl)) (pss_one (ps_ret pe_bl)) pss_nil)
      (pss_cons (ps_if (pt_cmpR op_in_seq (pe_ix ix_list (pv 1) pe_int (fun _ _ => rfl)) (pe_tup (pa_cons pe_str (pa_cons pe_str pa_nil))) (by rfl)) (pss_one (ps_ret (pe_cmpR op_eq (pe_callB call_len_seq rfl T.f_len (by decide +kernel) (pa_cons (pv 1) pa_nil)) pe_int (nomark _)))) pss_nil)
      (pss_cons (ps_if (pt_cmpR op_in_seq (pe_ix ix_list (pv 1) pe_int (fun _ _ => rfl)) (pe_tup (pa_cons pe_str (pa_cons pe_str (pa_cons pe_str pa_nil)))) (by rfl)) (pss_one (ps_ret (pe_cmpR op_eq (pe_callB call_len_seq rfl T.f_len (by decide +kernel) (pa_cons (pv 1) pa_nil)) pe_int (nomark _)))) pss_nil)
      (pss_cons (ps_if (pt_cmpR op_eq (pe_ix ix_list (pv 1) pe_int (fun _ _ => rfl)) pe_str (nomark _)) (pss_one (ps_ret (pe_cmpR op_eq (pe_callB call_len_seq rfl T.f_len (by decide +kernel) (pa_cons (pv 1) pa_nil)) pe_int (nomark _)))) pss_nil)
      (pss_cons (ps_if (PW.pt (pw_or (pt_cmpR op_notIn_seq (pe_ix ix_list (pv 1) pe_int (fun _ _ => rfl)) (pe_tup (pa_cons pe_str (pa_cons pe_str (pa_cons pe_str pa_nil)))) (by rfl)) (pw_or1 (pt_cmpR op_ne (pe_callB call_len_seq rfl T.f_len (by decide +kernel) (pa_cons (pv 1) pa_nil)) pe_int (nomark _))))) (pss_one (ps_ret pe_bl)) pss_nil)
      (pss_one (ps_ret (pe_fn G_law_number (hr.mono (by decide)) rfl T.g_law_number pass0 (pa_cons (pe_ix ix_list (pv 1) pe_int (fun _ _ => rfl)) (pa_cons (pe_dget hu (pe_disp (pps_cons pe_str pe_int (pps_cons pe_str pe_int (pps_cons pe_str pe_int pps_nil))) (by rfl) (by rfl) (fun z => by cases z) (by decide)) (pe_ix ix_list (pv 1) pe_int (fun _ _ => rfl)) (fun _ _ => rfl)) pa_nil)))))))))))), ?_⟩
    refine ⟨_, rfl, ⟨_, rfl⟩, t, " ", rfl, rfl, (by decide +kernel), size_of (by omega), fun p hp => ?_⟩
    show gName 1 (V.ref p) _ (upd H p (.lst ((wordsOf t).map V.str))) _
    have hws : ∀ x ∈ wordsOf t, x.length ≤ 5000 := fun x hx => Nat.le_trans (words_short hx) hl
    have hwo : ∀ x ∈ wordsOf t, PyData.strOk x = true := fun x hx => words_ok hx ok
    have hne := words_ne t
    have hm1 : (wordsOf t).getD 0 "" = "machine" → rowB t = machW (wordsOf (behind t)) := fun z => if_pos (decide_eq_true z)
    have hm2 : ¬ (wordsOf t).getD 0 "" = "machine" → rowB t = rowW (wordsOf t) := fun z => if_neg (by unfold isMach; rw [decide_eq_false z]; simp)
    generalize wordsOf t = ws at *
    have hpos : 0 < ws.length := List.length_pos_iff.mpr hne
    have ex1 := Evl.Ex.new (o := .lst (ws.map V.str)) hp
    have hp1 : upd H p (.lst (ws.map V.str)) p = some (.lst (ws.map V.str)) := upd_same
    have hH1 : ∃ H1, H1 = upd H p (.lst (ws.map V.str)) := ⟨_, rfl⟩
    obtain ⟨H1, eH1⟩ := hH1
    rw [← eH1] at ex1 hp1 ⊢
    refine ⟨_, rfl, p, _, ((0 : Nat) : Int), .str (ws.getD 0 ""), rfl, rfl, SqL.of hp1, word_at (K := K) hp1 hpos, rfl, _, rfl, ?_⟩
    refine ite2 (fun h1 => ?_) (fun h1 => ?_)
    · have h1 : ws.getD 0 "" = "machine" := by simpa using h1
      refine ⟨_, rfl, 8, rfl, t, rfl, size_of (by omega), behind t, rfl, Nat.le_trans (cutS_length t (some 8) none) hl, strOk_cut ok, fun H' ex' => ?_⟩
      have z := q H' (ex1.trans ex')
      rw [hm1 h1] at z
      exact z
    have h1 : ¬ ws.getD 0 "" = "machine" := by simpa using h1
    have erow := hm2 h1
    refine ⟨_, rfl, p, _, rfl, .inl (SqL.of hp1), rfl, flat_strs _, _, rfl, ?_⟩
    refine ite2 (fun h0 => ?_) (fun h0 => ?_)
    · have h0 : inV (.str "") (ws.map V.str) = true := h0
      rw [inV_strs] at h0
      have z := q H1 ex1
      rw [erow] at z
      have e : rowW ws = false := by
        unfold rowW lookW
        rw [decide_eq_false (not_not_intro (of_decide_eq_true h0))]
        rfl
      rw [e] at z
      exact z
    have h0 : ¬ inV (.str "") (ws.map V.str) = true := h0
    rw [inV_strs, decide_eq_true_eq] at h0
    rw [rowW_K h0] at erow
    have hlen : ((ws.map V.str).length : Int) = ((ws.length : Nat) : Int) := by simp
    have ret : ∀ (k : Nat) (H' : Hp), Evl.Ex H H' → formN (ws.getD 0 "") = some k → boundN (ws.getD 0 "") = none → Q (.bl (decide (V.int (((ws.map V.str).length : Nat) : Int) = V.int ((k : Nat) : Int)))) H' := fun k H' ex hf hb => by
      have z := q H' ex
      rw [erow, rowK_free hf hb] at z
      have e : decide (V.int (((ws.map V.str).length : Nat) : Int) = V.int ((k : Nat) : Int)) = decide (ws.length = k) := by
        rw [decide_eq_decide, hlen]
        simp
        try omega
      rw [e]
      exact z
    -- undo, names
    refine ⟨_, rfl, p, _, ((0 : Nat) : Int), .str (ws.getD 0 ""), rfl, rfl, SqL.of hp1, word_at (K := K) hp1 hpos, size_of (by show 2 ≤ 16000000; decide), fun tp htp => ?_⟩
    have ex2 := ex1.trans (Evl.Ex.new (o := .tup [.str "undo", .str "names"]) htp)
    have hp2 := Evl.Ex.new (o := .tup [.str "undo", .str "names"]) htp _ _ hp1
    refine ⟨tp, _, rfl, .inr (SqT.of upd_same), rfl, rfl, _, rfl, ?_⟩
    have hH2 : ∃ H2, H2 = upd H1 tp (.tup [.str "undo", .str "names"]) := ⟨_, rfl⟩
    obtain ⟨H2, eH2⟩ := hH2
    rw [← eH2] at ex2 hp2 ⊢
    refine ite2 (fun h2 => ?_) (fun h2 => ?_)
    · have h2 : inV (.str (ws.getD 0 "")) ((["undo", "names"] : List Str).map V.str) = true := h2
      rw [inV_strs, decide_eq_true_eq] at h2
      have hf : formN (ws.getD 0 "") = some 1 ∧ boundN (ws.getD 0 "") = none := by
        rcases List.mem_cons.mp h2 with h | h
        · rw [h]; exact ⟨by decide +kernel, by decide +kernel⟩
        · rw [List.mem_singleton.mp h]; exact ⟨by decide +kernel, by decide +kernel⟩
      exact ⟨_, rfl, p, _, rfl, .inl (SqL.of hp2), rfl, ret 1 _ ex2 hf.1 hf.2⟩
    have h2 : ¬ inV (.str (ws.getD 0 "")) ((["undo", "names"] : List Str).map V.str) = true := h2
    rw [inV_strs, decide_eq_true_eq] at h2
    -- drop, row, gone
    refine ⟨_, rfl, p, _, ((0 : Nat) : Int), .str (ws.getD 0 ""), rfl, rfl, SqL.of hp2, word_at (K := K) hp2 hpos, size_of (by show 3 ≤ 16000000; decide), fun tp3 htp3 => ?_⟩
    have ex3 := ex2.trans (Evl.Ex.new (o := .tup [.str "drop", .str "row", .str "gone"]) htp3)
    have hp3 := Evl.Ex.new (o := .tup [.str "drop", .str "row", .str "gone"]) htp3 _ _ hp2
    refine ⟨tp3, _, rfl, .inr (SqT.of upd_same), rfl, rfl, _, rfl, ?_⟩
    have hH3 : ∃ H3, H3 = upd H2 tp3 (.tup [.str "drop", .str "row", .str "gone"]) := ⟨_, rfl⟩
    obtain ⟨H3, eH3⟩ := hH3
    rw [← eH3] at ex3 hp3 ⊢
    refine ite2 (fun h3 => ?_) (fun h3 => ?_)
    · have h3 : inV (.str (ws.getD 0 "")) ((["drop", "row", "gone"] : List Str).map V.str) = true := h3
      rw [inV_strs, decide_eq_true_eq] at h3
      have hf : formN (ws.getD 0 "") = some 2 ∧ boundN (ws.getD 0 "") = none := by
        rcases List.mem_cons.mp h3 with h | h
        · rw [h]; exact ⟨by decide +kernel, by decide +kernel⟩
        · rcases List.mem_cons.mp h with h | h
          · rw [h]; exact ⟨by decide +kernel, by decide +kernel⟩
          · rw [List.mem_singleton.mp h]; exact ⟨by decide +kernel, by decide +kernel⟩
      exact ⟨_, rfl, p, _, rfl, .inl (SqL.of hp3), rfl, ret 2 _ ex3 hf.1 hf.2⟩
    have h3 : ¬ inV (.str (ws.getD 0 "")) ((["drop", "row", "gone"] : List Str).map V.str) = true := h3
    rw [inV_strs, decide_eq_true_eq] at h3
    -- put
    refine ⟨_, rfl, p, _, ((0 : Nat) : Int), .str (ws.getD 0 ""), rfl, rfl, SqL.of hp3, word_at (K := K) hp3 hpos, rfl, _, rfl, ?_⟩
    refine ite2 (fun h4 => ?_) (fun h4 => ?_)
    · have h4 : ws.getD 0 "" = "put" := by simpa using h4
      exact ⟨_, rfl, p, _, rfl, .inl (SqL.of hp3), rfl, ret 3 _ ex3 (by rw [h4]; decide +kernel) (by rw [h4]; decide +kernel)⟩
    have h4 : ¬ ws.getD 0 "" = "put" := by simpa using h4
    -- run, fate, count
    refine ⟨_, rfl, p, _, ((0 : Nat) : Int), .str (ws.getD 0 ""), rfl, rfl, SqL.of hp3, word_at (K := K) hp3 hpos, size_of (by show 3 ≤ 16000000; decide), fun tp5 htp5 => ?_⟩
    have ex5 := ex3.trans (Evl.Ex.new (o := .tup [.str "run", .str "fate", .str "count"]) htp5)
    have hp5 := Evl.Ex.new (o := .tup [.str "run", .str "fate", .str "count"]) htp5 _ _ hp3
    refine ⟨tp5, _, rfl, .inr (SqT.of upd_same), rfl, rfl, _, rfl, ?_⟩
    have hH5 : ∃ H5, H5 = upd H3 tp5 (.tup [.str "run", .str "fate", .str "count"]) := ⟨_, rfl⟩
    obtain ⟨H5, eH5⟩ := hH5
    rw [← eH5] at ex5 hp5 ⊢
    have qn := q H5 ex5
    refine ite2 (fun h5 => ?_) (fun h5 => ?_)
    · have h5 : (!inV (.str (ws.getD 0 "")) ((["run", "fate", "count"] : List Str).map V.str)) = true := h5
      rw [inV_strs] at h5
      have h5 : ¬ ws.getD 0 "" ∈ (["run", "fate", "count"] : List Str) := by
        intro z
        rw [decide_eq_true z] at h5
        cases h5
      have hf : formN (ws.getD 0 "") = none := by
        simp only [List.mem_cons, List.not_mem_nil, or_false, not_or] at h2 h3 h5
        unfold formN
        rw [if_neg h4, if_neg h3.1, if_neg h2.1, if_neg h5.1, if_neg h3.2.1, if_neg h3.2.2, if_neg h2.2, if_neg h5.2.1, if_neg h5.2.2]
      rw [erow, rowK_none hf] at qn
      exact qn
    have h5 : ¬ (!inV (.str (ws.getD 0 "")) ((["run", "fate", "count"] : List Str).map V.str)) = true := h5
    rw [inV_strs] at h5
    have h5 : ws.getD 0 "" ∈ (["run", "fate", "count"] : List Str) := by
      by_cases z : ws.getD 0 "" ∈ (["run", "fate", "count"] : List Str)
      · exact z
      · exact absurd (by rw [decide_eq_false z]; rfl) h5
    have hval : ∃ m : Int, boundN (ws.getD 0 "") = some m ∧ valV (mergeK ([] : List (Key × V)) [(Sum.inr "run", .int 200), (Sum.inr "fate", .int 400), (Sum.inr "count", .int 4)]) (Sum.inr (ws.getD 0 "")) = some (.int m) := by
      rcases List.mem_cons.mp h5 with h | h
      · rw [h]; exact ⟨200, by decide +kernel, rfl⟩
      · rcases List.mem_cons.mp h with h | h
        · rw [h]; exact ⟨400, by decide +kernel, rfl⟩
        · rw [List.mem_singleton.mp h]; exact ⟨4, by decide +kernel, rfl⟩
    obtain ⟨m, hb, hv⟩ := hval
    refine ⟨_, rfl, p, _, rfl, .inl (SqL.of hp5), rfl, _, rfl, ?_⟩
    refine ite2 (fun h6 => ?_) (fun h6 => ?_)
    · have h6 : ¬ ws.length = 3 := by
        intro z
        rw [hlen, z] at h6
        simp at h6
      rw [erow, rowK_num hb, decide_eq_false h6, Bool.false_and] at qn
      exact qn
    have h6 : ws.length = 3 := by
      have z : ((ws.map V.str).length : Int) = 3 := by simpa using h6
      rw [hlen] at z
      omega
    refine ⟨_, rfl, p, _, ((2 : Nat) : Int), _, rfl, rfl, SqL.of hp5, word_at (K := K) hp5 (by omega), ?_⟩
    refine fun d hd => ⟨upd_same, [(Sum.inr "run", .int 200), (Sum.inr "fate", .int 400), (Sum.inr "count", .int 4)], rfl, (by show 3 ≤ 15; decide), ?_⟩
    rw [upd_upd]
    have ex6 := ex5.trans (Evl.Ex.new (o := .dK (mergeK [] [(Sum.inr "run", .int 200), (Sum.inr "fate", .int 400), (Sum.inr "count", .int 4)])) hd)
    have hp6 := Evl.Ex.new (o := .dK (mergeK [] [(Sum.inr "run", .int 200), (Sum.inr "fate", .int 400), (Sum.inr "count", .int 4)])) hd _ _ hp5
    refine ⟨_, rfl, p, _, ((0 : Nat) : Int), .str (ws.getD 0 ""), rfl, rfl, SqL.of hp6, word_at (K := K) hp6 hpos, d, .int m, rfl, (by rw [← hv]; exact DGet.k (k := Sum.inr (ws.getD 0 "")) upd_same), ?_⟩
    refine ⟨ws.getD 2 "", m, rfl, hws _ (get_mem (ws := ws) (i := 2) (by omega)), hwo _ (get_mem (ws := ws) (i := 2) (by omega)), fun H' ex' => ?_⟩
    have z := q H' (ex6.trans ex')
    rw [erow, rowK_num hb, decide_eq_true h6, Bool.true_and] at z
    exact z
end
end Tg

namespace Tg
open PySem PySem.Spec PyProof.Rows L2
theorem call_isXK {X : Cx} {K : PySem.W.Frag} {a : Addr} {oe : Obj} {cls : Value} {d : Option Addr} (hK : X.K = K) (hp : (a, oe) ∈ X.pn) (hz : Zc cls d oe) (hf : ∃ vs, oe.data = .fields vs) : CallR X (.builtin "isinstance") (rIsX K a cls d) := by
  subst hK
  exact call_isX hp hz hf
def errs7 : List Str := ["NoText", "NoMachine", "NoSign", "NoName", "NoDeed", "NoRow", "TooMany"]
def kinds10 : List Str := ["AtRest", "NoDeed", "NoMachine", "NoName", "NoOrder", "NoRow", "NoSign", "NoText", "TooFew", "TooMany"]
def kwords : List Str := ["rest", "deed", "machine", "name", "order", "row", "sign", "text", "few", "many"]
def bsOf (C : Str) : List V := kinds10.map fun y => .bl (decide (C = y))
def kindW (C : Str) : Str := kwords.getD (kinds10.findIdx fun y => decide (C = y)) ""
theorem bs_flat (C : Str) : (bsOf C).all flatV = true := by
  unfold bsOf
  rw [List.all_map, List.all_eq_true]
  intro y _
  rfl
theorem bs_count : ∀ C ∈ errs7, (bsOf C).countP (fun z => eqV z (.bl true)) = 1 := by decide +kernel
theorem bs_at : ∀ C ∈ errs7, ∃ j : Nat, (bsOf C)[j]? = some (.bl true) ∧ (∀ (m : Nat) (z' : V), m < j → (bsOf C)[m]? = some z' → eqV z' (.bl true) = false) ∧ (kwords.map V.str)[j]? = some (.str (kindW C)) := by
  intro C hC
  refine ⟨kinds10.findIdx fun y => decide (C = y), ?_⟩
  have a : ∀ C ∈ errs7, ((kinds10.map fun y => decide (C = y))[kinds10.findIdx fun y => decide (C = y)]? = some true) ∧ ((kinds10.map fun y => decide (C = y)).take (kinds10.findIdx fun y => decide (C = y))).all (fun b => !b) = true ∧ kwords[kinds10.findIdx fun y => decide (C = y)]? = some (kindW C) := by decide +kernel
  obtain ⟨h1, h2, h3⟩ := a C hC
  have eb : bsOf C = (kinds10.map fun y => decide (C = y)).map V.bl := by
    unfold bsOf
    rw [List.map_map]
    rfl
  refine ⟨?_, fun m z' hm hz => ?_, ?_⟩
  · rw [eb, List.getElem?_map, h1]
    rfl
  · rw [eb, List.getElem?_map] at hz
    obtain ⟨b, hb, rfl⟩ := Option.map_eq_some_iff.mp hz
    have hmem : b ∈ (kinds10.map fun y => decide (C = y)).take (kinds10.findIdx fun y => decide (C = y)) := by
      refine List.mem_of_getElem? (i := m) ?_
      rw [List.getElem?_take, if_pos hm]
      exact hb
    rw [List.all_eq_true] at h2
    have hbf : b = false := by simpa using h2 b hmem
    rw [hbf]
    rfl
  · rw [List.getElem?_map, h3]
    rfl
theorem not_rest : ∀ C ∈ errs7, decide (C = "AtRest") = false := by decide +kernel
section
variable {P : Program} {w : World} {K : PySem.W.Frag} {mg : Str → Option Value} {base : Heap}
theorem excC_of (T : Txt w K mg) : ∀ C ∈ errs7, ExcC K (He.ga K C) := by
  intro C hC
  simp only [errs7, List.mem_cons, List.not_mem_nil, or_false] at hC
  rcases hC with rfl | rfl | rfl | rfl | rfl | rfl | rfl
  · exact T.i_NoText
  · exact T.i_NoMachine
  · exact T.i_NoSign
  · exact T.i_NoName
  · exact T.i_NoDeed
  · exact T.i_NoRow
  · exact T.i_TooMany
theorem excV_of (T : Txt w K mg) : ∀ C ∈ errs7, PySem.W.kitOne K (.ref (He.ga K C)) (.type "ValueError") = some true := by
  intro C hC
  simp only [errs7, List.mem_cons, List.not_mem_nil, or_false] at hC
  rcases hC with rfl | rfl | rfl | rfl | rfl | rfl | rfl
  · exact T.v_NoText
  · exact T.v_NoMachine
  · exact T.v_NoSign
  · exact T.v_NoName
  · exact T.v_NoDeed
  · exact T.v_NoRow
  · exact T.v_TooMany
theorem excX_of (T : Txt w K mg) : ∀ C ∈ errs7, PySem.W.exmOne K (.ref (He.ga K C)) (.ref (He.ga K "TagError")) = some true := by
  intro C hC
  simp only [errs7, List.mem_cons, List.not_mem_nil, or_false] at hC
  rcases hC with rfl | rfl | rfl | rfl | rfl | rfl | rfl
  · exact T.x_NoText
  · exact T.x_NoMachine
  · exact T.x_NoSign
  · exact T.x_NoName
  · exact T.x_NoDeed
  · exact T.x_NoRow
  · exact T.x_TooMany
def spKind (K : PySem.W.Frag) : SpE := fun a cls vs H Q _ => vs = [.ref a] ∧ ∃ C ∈ errs7, cls = .ref (He.ga K C) ∧ ∀ H', Evl.Ex H H' → Q (.str (kindW C)) H'
theorem k_kind (T : Txt w K mg) : ∃ fd, FnE P w K mg base 1 (He.fAd K ("_law_kind_of", none)) fd P_law_kind_of (spKind K) ∧ Binds K fd P_law_kind_of [] ∧ PySem.W.keepIn K (.ref (He.fAd K ("_law_kind_of", none))) = true := by
  obtain ⟨fd, F⟩ := T.d_law_kind_of
  refine ⟨fd, fn_ofE F sc_law_kind_of (fun a cls vs H Q E h => ?_) (fun cdv A outer s H vs Q E p cls hz hf hr h => ?_), F.bindsN bn_law_kind_of, F.kp⟩
  · obtain ⟨rfl, _⟩ := h
    rfl
  · obtain ⟨rfl, C, hC, rfl, q⟩ := h
    have xc := excC_of T C hC
    refine ⟨_, (pss_cons (ps_set (i := 1) sc_law_kind_of.nd rfl (by first | exact Or.inl rfl | exact Or.inr rfl) (pe_lst (pa_cons (pe_callB (call_isX (List.mem_cons_self ..) hz hf) rfl T.f_isinstance (by decide +kernel) (pa_cons (pv 0) (pa_cons (pe_glob (v := .ref (He.ga K "AtRest")) rfl T.g_AtRest rfl) pa_nil))) (pa_cons (pe_callB (call_isX (List.mem_cons_self ..) hz hf) rfl T.f_isinstance (by decide +kernel) (pa_cons (pv 0) (pa_cons (pe_glob (v := .ref (He.ga K "NoDeed")) rfl T.g_NoDeed rfl) pa_nil))) (pa_cons (pe_callB (call_isX (List.mem_cons_self ..) hz hf) rfl T.f_isinstance (by decide +kernel) (pa_cons (pv 0) (pa_cons (pe_glob (v := .ref (He.ga K "NoMachine")) rfl T.g_NoMachine rfl) pa_nil))) (pa_cons (pe_callB (call_isX (List.mem_cons_self ..) hz hf) rfl T.f_isinstance (by decide +kernel) (pa_cons (pv 0) (pa_cons (pe_glob (v := .ref (He.ga K "NoName")) rfl T.g_NoName rfl) pa_nil))) pa_nil))))))
      (pss_cons (ps_set (i := 1) sc_law_kind_of.nd rfl (by first | exact Or.inl rfl | exact Or.inr rfl) (pe_op op_cat (pv 1) (pe_lst (pa_cons (pe_callB (call_isX (List.mem_cons_self ..) hz hf) rfl T.f_isinstance (by decide +kernel) (pa_cons (pv 0) (pa_cons (pe_glob (v := .ref (He.ga K "NoOrder")) rfl T.g_NoOrder rfl) pa_nil))) (pa_cons (pe_callB (call_isX (List.mem_cons_self ..) hz hf) rfl T.f_isinstance (by decide +kernel) (pa_cons (pv 0) (pa_cons (pe_glob (v := .ref (He.ga K "NoRow")) rfl T.g_NoRow rfl) pa_nil))) (pa_cons (pe_callB (call_isX (List.mem_cons_self ..) hz hf) rfl T.f_isinstance (by decide +kernel) (pa_cons (pv 0) (pa_cons (pe_glob (v := .ref (He.ga K "NoSign")) rfl T.g_NoSign rfl) pa_nil))) (pa_cons (pe_callB (call_isX (List.mem_cons_self ..) hz hf) rfl T.f_isinstance (by decide +kernel) (pa_cons (pv 0) (pa_cons (pe_glob (v := .ref (He.ga K "NoText")) rfl T.g_NoText rfl) pa_nil))) pa_nil)))))))
      (pss_cons (ps_set (i := 1) sc_law_kind_of.nd rfl (by first | exact Or.inl rfl | exact Or.inr rfl) (pe_op op_cat (pv 1) (pe_lst (pa_cons (pe_callB (call_isX (List.mem_cons_self ..) hz hf) rfl T.f_isinstance (by decide +kernel) (pa_cons (pv 0) (pa_cons (pe_glob (v := .ref (He.ga K "TooFew")) rfl T.g_TooFew rfl) pa_nil))) (pa_cons (pe_callB (call_isX (List.mem_cons_self ..) hz hf) rfl T.f_isinstance (by decide +kernel) (pa_cons (pv 0) (pa_cons (pe_glob (v := .ref (He.ga K "TooMany")) rfl T.g_TooMany rfl) pa_nil))) pa_nil)))))
      (pss_cons (ps_if (PW.pt (pw_or (pt_cmpR op_ne (pe_bm PySem.F.plainAttrs_list PySem.F.slot_list_count PySem.F.type_list_count mt_cntF (pv 1) (pa_cons pe_bl pa_nil)) pe_int (nomark _)) (pw_or1 (pt_not (pt_val (pe_callB (call_isX (List.mem_cons_self ..) hz hf) rfl T.f_isinstance (by decide +kernel) (pa_cons (pv 0) (pa_cons (pe_bltn (v := .ty "ValueError") (u := .type "ValueError") rfl T.f_ValueError (by decide +kernel) rfl) pa_nil)))))))) (pss_one (ps_ret pe_str)) pss_nil)
      (pss_cons (ps_set (i := 2) sc_law_kind_of.nd rfl (by first | exact Or.inl rfl | exact Or.inr rfl) (pe_lst (pa_cons pe_str (pa_cons pe_str (pa_cons pe_str (pa_cons pe_str (pa_cons pe_str (pa_cons pe_str (pa_cons pe_str (pa_cons pe_str (pa_cons pe_str (pa_cons pe_str pa_nil))))))))))))
      (pss_one (ps_ret (pe_ix ix_list (pv 2) (pe_bm PySem.F.plainAttrs_list PySem.F.slot_list_index PySem.F.type_list_index mt_index (pv 1) (pa_cons pe_bl pa_nil)) (fun _ _ => rfl))))))))), ?_⟩
    refine ⟨_, rfl, He.ga K C, _, _, _, rfl, rfl, xc, rfl, fun u r => r, T.kit C hC "AtRest" (by simp), _, rfl, He.ga K C, _, _, _, rfl, rfl, xc, rfl, fun u r => r, T.kit C hC "NoDeed" (by simp), _, rfl, He.ga K C, _, _, _, rfl, rfl, xc, rfl, fun u r => r, T.kit C hC "NoMachine" (by simp), _, rfl, He.ga K C, _, _, _, rfl, rfl, xc, rfl, fun u r => r, T.kit C hC "NoName" (by simp), size_of (by show 4 ≤ 16000000; decide), fun p1 hp1 => ?_⟩
    refine ⟨_, rfl, _, rfl, He.ga K C, _, _, _, rfl, rfl, xc, rfl, fun u r => r, T.kit C hC "NoOrder" (by simp), _, rfl, He.ga K C, _, _, _, rfl, rfl, xc, rfl, fun u r => r, T.kit C hC "NoRow" (by simp), _, rfl, He.ga K C, _, _, _, rfl, rfl, xc, rfl, fun u r => r, T.kit C hC "NoSign" (by simp), _, rfl, He.ga K C, _, _, _, rfl, rfl, xc, rfl, fun u r => r, T.kit C hC "NoText" (by simp), size_of (by show 4 ≤ 16000000; decide), fun p2 hp2 => ?_⟩
    have n12 : p1 ≠ p2 := fun z => by rw [← z, upd_same] at hp2; cases hp2
    refine ⟨p1, p2, _, _, rfl, rfl, (by rw [upd_ne n12]; exact upd_same), upd_same, size_of (by show 4 + 4 ≤ 16000000; decide), fun p3 hp3 => ?_⟩
    refine ⟨_, rfl, _, rfl, He.ga K C, _, _, _, rfl, rfl, xc, rfl, fun u r => r, T.kit C hC "TooFew" (by simp), _, rfl, He.ga K C, _, _, _, rfl, rfl, xc, rfl, fun u r => r, T.kit C hC "TooMany" (by simp), size_of (by show 2 ≤ 16000000; decide), fun p4 hp4 => ?_⟩
    have n34 : p3 ≠ p4 := fun z => by rw [← z, upd_same] at hp4; cases hp4
    refine ⟨p3, p4, _, _, rfl, rfl, (by rw [upd_ne n34]; exact upd_same), upd_same, size_of (by show 8 + 2 ≤ 16000000; decide), fun p5 hp5 => ?_⟩
    have ex1 := Evl.Ex.new (o := .lst [.bl (decide (C = "AtRest")), .bl (decide (C = "NoDeed")), .bl (decide (C = "NoMachine")), .bl (decide (C = "NoName"))]) hp1
    have ex2 := Evl.Ex.new (o := .lst [.bl (decide (C = "NoOrder")), .bl (decide (C = "NoRow")), .bl (decide (C = "NoSign")), .bl (decide (C = "NoText"))]) hp2
    have ex3 := Evl.Ex.new (o := .lst ([V.bl (decide (C = "AtRest")), .bl (decide (C = "NoDeed")), .bl (decide (C = "NoMachine")), .bl (decide (C = "NoName"))] ++ [.bl (decide (C = "NoOrder")), .bl (decide (C = "NoRow")), .bl (decide (C = "NoSign")), .bl (decide (C = "NoText"))])) hp3
    have ex4 := Evl.Ex.new (o := .lst [.bl (decide (C = "TooFew")), .bl (decide (C = "TooMany"))]) hp4
    have ex5 := Evl.Ex.new (o := .lst (bsOf C)) hp5
    have ex := ex1.trans (ex2.trans (ex3.trans (ex4.trans ex5)))
    refine ⟨_, rfl, .inl ⟨rfl, _, SqL.of upd_same⟩, p5, bsOf C, .bl true, rfl, rfl, SqL.of upd_same, rfl, bs_flat C, rfl, _, rfl, ?_⟩
    rw [bs_count C hC]
    refine ite2 (fun z => absurd z (by decide)) (fun _ => ?_)
    refine ⟨_, rfl, He.ga K C, _, _, true, rfl, rfl, xc, rfl, fun u r => r, excV_of T C hC, true, rfl, iteF ?_⟩
    refine ⟨size_of (by show 10 ≤ 16000000; decide), fun p6 hp6 => ?_⟩
    have ex6 := Evl.Ex.new (o := .lst (kwords.map V.str)) hp6
    have n56 : p5 ≠ p6 := fun z => by rw [← z, upd_same] at hp6; cases hp6
    obtain ⟨j, hj, hno, hk⟩ := bs_at C hC
    refine ⟨_, rfl, _, rfl, .inl ⟨rfl, _, SqL.of (by rw [upd_ne n56]; exact upd_same)⟩, p5, bsOf C, .bl true, j, .bl true, rfl, rfl, SqL.of (by rw [upd_ne n56]; exact upd_same), rfl, bs_flat C, hj, rfl, hno, p6, kwords.map V.str, (j : Int), .str (kindW C), rfl, rfl, SqL.of upd_same, atI_nat hk, ?_⟩
    exact q _ (ex.trans ex6)
theorem spSay.mono {vs : List V} {H : Hp} {Q Q' : VK} {E E' : XK} (h : spSay K vs H Q E) (hq : ∀ v H', Q v H' → Q' v H') (he : ∀ u d H', E u d H' → E' u d H') : spSay K vs H Q' E' := by
  obtain ⟨d, ddx, o, x, e, hd, hc⟩ := h
  refine ⟨d, ddx, o, x, e, hd, ?_⟩
  rcases hc with ⟨hn, q⟩ | ⟨t, et, hl, q1, q2, q3⟩
  · exact .inl ⟨hn, fun H' ex => he _ _ _ (q H' ex)⟩
  · refine .inr ⟨t, et, hl, fun hb H' ex => he _ _ _ (q1 hb H' ex), fun hb hs H' b e words hw fr hd' hB hb0 he0 => hq _ _ (q2 hb hs H' b e words hw fr hd' hB hb0 he0), fun hb hs => ?_⟩
    rcases q3 hb hs with ⟨eo, q⟩ | ⟨b, e, L, words, kvs, eo, hB, hL, qs, qe⟩
    · exact .inl ⟨eo, fun H' ex => he _ _ _ (q H' ex)⟩
    · exact .inr ⟨b, e, L, words, kvs, eo, hB, hL, fun s H' kvs' fr hB' hs hq2 hp => hq _ _ (qs s H' kvs' fr hB' hs hq2 hp), fun C hC H' ex h1 h2 => he _ _ _ (qe C hC H' ex h1 h2)⟩
/-- what a desk is told to: a list of its answer, or the error's word -/
def spTold (K : PySem.W.Frag) : Sp := fun vs H Q _ => ∃ (d ddx : Addr) (o x : V), vs = [.ref d, x] ∧ H d = some (.ins (He.ga K "Desk") ddx [("own", o)]) ∧
  spSay K [.ref d, x] H (fun v H' => ∀ p, H' p = none → Q (.ref p) (upd H' p (.lst [v]))) (fun u dd H' => ∃ C ∈ errs7, u = .ref (He.ga K C) ∧ dd = none ∧ ∀ H'', Evl.Ex H' H'' → Q (.str (kindW C)) H'')
theorem k_told (T : Txt w K mg) : Kp P w K mg base CX0 8 (He.fAd K ("_law_desk_told", none)) P_law_desk_told (spTold K) := by
  have G_Desk_say := k_say (P := P) (base := base) T
  obtain ⟨fdK, FK, bK, kK⟩ := k_kind (P := P) (base := base) T
  refine Kp.of T.d_law_desk_told sc_law_desk_told bn_law_desk_told (fun vs H Q E h => ?_) (fun f cdv A outer s H vs Q E hr h => ?_)
  · obtain ⟨d, ddx, o, x, rfl, _⟩ := h
    rfl
  · obtain ⟨d, ddx, o, x, rfl, hd, hsay⟩ := h
    refine ⟨_, (pss_one (L2.ps_try_as (i := 2) rfl rfl sc_law_desk_told.nd rfl rfl ⟨rfl, by decide, .inl T.g_TagError⟩ takes0
      (fun W pn xe tk own => pss_one (ps_ret (pe_lst (pa_cons (pe_mtW (pv 0) T.cl_Desk T.m_Desk_say G_Desk_say (hr.mono (by decide)) (fun σ => L2.passAt tk σ) (pa_cons (pv 1) pa_nil)) pa_nil))))
      (fun a oe cls d pn hz hf => pss_cons (ps_if (pt_val (pe_callB (call_isXK (K := K) rfl (List.mem_cons_self ..) hz hf) rfl T.f_isinstance (by decide +kernel) (pa_cons (pv 2) (pa_cons (pe_glob (v := .ref (He.ga K "AtRest")) rfl T.g_AtRest rfl) pa_nil)))) (pss_one (ps_ret pe_str)) pss_nil)
        (pss_one (ps_ret (pe_callE FK (L2H.RoomH.mk (hr.mono (j := 1) (by decide)).dp (hr.mono (j := 1) (by decide)).un) (List.mem_cons_self ..) hz hf rfl T.g_law_kind_of kK bK (pa_cons (pv 2) pa_nil))))))), ?_⟩
    refine ⟨_, rfl, d, ddx, _, rfl, hd, rfl, _, rfl, ?_⟩
    unfold tNil
    dsimp only
    refine spSay.mono hsay (fun v H' q => ⟨size_of (by show 1 ≤ 16000000; decide), fun p hp => q p hp⟩) (fun u dd H' hE => ?_)
    obtain ⟨C, hC, rfl, rfl, q⟩ := hE
    refine ⟨true, excX_of T C hC, fun _ a ha => ?_, fun z => nomatch z⟩
    refine ⟨_, rfl, He.ga K C, _, _, false, rfl, rfl, excC_of T C hC, rfl, fun u r => r, (by rw [← not_rest C hC]; exact T.kit C hC "AtRest" (by simp)), false, rfl, iteF ?_⟩
    exact ⟨_, rfl, rfl, rfl, C, hC, rfl, fun H'' ex => q H'' ex⟩
end
end Tg

namespace Tg
open PySem PySem.Spec PyProof.Rows L2
/-! ### a bent text -/
def signs9 : List Str := [" ", "-", "a", "0", "1", "A", "\n", "  ", "9"]
theorem signs9_ok {k : Nat} (h : k < 9) : (signs9.getD k "").length ≤ 2 ∧ PyData.strOk (signs9.getD k "") = true := by
  have a : ∀ k : Fin 9, (signs9.getD k.val "").length ≤ 2 ∧ PyData.strOk (signs9.getD k.val "") = true := by decide +kernel
  exact a ⟨k, h⟩
def cutL (l : List Str) (lo hi : Option Int) : List Str := (l.drop (HT.sIx l.length 0 lo)).take (HT.sIx l.length l.length hi - HT.sIx l.length 0 lo)
theorem cutV_L (l : List Str) (lo hi : Option Int) : cutV (l.map V.str) lo hi = (cutL l lo hi).map V.str := by
  unfold cutV cutL
  rw [List.length_map, List.map_take, List.map_drop]
theorem cutL_mem {l : List Str} {lo hi : Option Int} {x : Str} (h : x ∈ cutL l lo hi) : x ∈ l := List.mem_of_mem_drop (List.mem_of_mem_take h)
theorem cutL_len (l : List Str) (lo hi : Option Int) : (cutL l lo hi).length ≤ l.length := by
  unfold cutL
  rw [List.length_take, List.length_drop]
  omega
/-- a text that may be bent to -/
def BentOk (t : Str) : Prop := t.length ≤ 1000 ∧ PyData.strOk t = true
theorem join_bent {l : List Str} (h : ∀ x ∈ l, x.length ≤ 20 ∧ PyData.strOk x = true) (hl : l.length ≤ 44) : BentOk (Txt.join " " l) ∧ (l.map (·.length)).sum + l.length * (" " : Str).length ≤ 16777216 := by
  have h1 := sum_le fun x hx => (h x hx).1
  have h2 := join_len (y := " ") l
  have h3 : (" " : Str).length = 1 := by decide +kernel
  rw [h3] at h2 ⊢
  exact ⟨⟨by omega, join_ok fun x hx => (h x hx).2⟩, by omega⟩
theorem get_str {K : PySem.W.Frag} {l : List Str} {k : Nat} (h : k < l.length) : atI (l.map V.str) (k : Int) = some (.str (l.getD k "")) := by
  refine atI_nat ?_
  rw [List.getElem?_map, List.getElem?_eq_getElem h, List.getD_eq_getElem?_getD, List.getElem?_eq_getElem h]
  rfl
section
variable {P : Program} {w : World} {K : PySem.W.Frag} {mg : Str → Option Value} {base : Heap}
def spBent : Sp := fun vs H Q _ => ∃ (p : Addr) (v : Int) (t : Str), vs = [.ref p, .str t] ∧ H p = some (.lst [.int v]) ∧ t.length ≤ 20 ∧ PyData.strOk t = true ∧ PyData.strOk (Txt.upper t) = true ∧
  ∀ H' v' t', Fr [p] H H' → H' p = some (.lst [.int v']) → BentOk t' → Q (.str t') H'
theorem k_bent (T : Txt w K mg) : Kp P w K mg base CX0 2 (He.fAd K ("_law_bent", none)) P_law_bent spBent := by
  have G_law_take := k_take (P := P) (base := base) T
  refine Kp.of T.d_law_bent sc_law_bent bn_law_bent (fun vs H Q E h => ?_) (fun f cdv A outer s H vs Q E hr h => ?_)
  · obtain ⟨p, v, t, rfl, _⟩ := h
    rfl
  · obtain ⟨p, v, t, rfl, hp, hl, ok, oku, q⟩ := h
    refine ⟨_, (pss_cons (ps_set (i := 2) sc_law_bent.nd rfl (by first | exact Or.inl rfl | exact Or.inr rfl) (pe_fn G_law_take (hr.mono (by decide)) rfl T.g_law_take pass0 (pa_cons (pv 0) (pa_cons (pe_op op_add (pe_callB call_len_str rfl T.f_len (by decide +kernel) (pa_cons (pv 1) pa_nil)) pe_int) pa_nil))))
      (pss_cons (ps_set (i := 3) sc_law_bent.nd rfl (by first | exact Or.inl rfl | exact Or.inr rfl) (pe_ix ix_list (pe_lst (pa_cons pe_str (pa_cons pe_str (pa_cons pe_str (pa_cons pe_str (pa_cons pe_str (pa_cons pe_str (pa_cons pe_str (pa_cons pe_str (pa_cons pe_str pa_nil)))))))))) (pe_fn G_law_take (hr.mono (by decide)) rfl T.g_law_take pass0 (pa_cons (pv 0) (pa_cons pe_int pa_nil))) (fun _ _ => rfl)))
      (pss_cons (ps_set (i := 4) sc_law_bent.nd rfl (by first | exact Or.inl rfl | exact Or.inr rfl) (pe_split (pv 1) pe_str))
      (pss_cons (ps_set (i := 5) sc_law_bent.nd rfl (by first | exact Or.inl rfl | exact Or.inr rfl) (pe_fn G_law_take (hr.mono (by decide)) rfl T.g_law_take pass0 (pa_cons (pv 0) (pa_cons (pe_callB call_len_seq rfl T.f_len (by decide +kernel) (pa_cons (pv 4) pa_nil)) pa_nil))))
      (pss_cons (ps_set (i := 6) sc_law_bent.nd rfl (by first | exact Or.inl rfl | exact Or.inr rfl) (pe_lst (pa_cons (pv 1) (pa_cons (pe_op op_add_str (pe_op op_add_str (pe_slice sl_str (pv 1) po_none (po_some (pv 2))) (pv 3)) (pe_slice sl_str (pv 1) (po_some (pv 2)) po_none)) (pa_cons (pe_op op_add_str (pe_slice sl_str (pv 1) po_none (po_some (pv 2))) (pe_slice sl_str (pv 1) (po_some (pe_op op_add (pv 2) pe_int)) po_none)) (pa_cons (pe_op op_add_str (pe_op op_add_str (pe_slice sl_str (pv 1) po_none (po_some (pv 2))) (pv 3)) (pe_slice sl_str (pv 1) (po_some (pe_op op_add (pv 2) pe_int)) po_none)) pa_nil))))))
      (pss_cons (ps_set (i := 6) sc_law_bent.nd rfl (by first | exact Or.inl rfl | exact Or.inr rfl) (pe_op op_cat (pv 6) (pe_lst (pa_cons (pe_join pe_str (pe_op op_cat (pe_slice sl_list (pv 4) po_none (po_some (pv 5))) (pe_slice sl_list (pv 4) (po_some (pe_op op_add (pv 5) pe_int)) po_none))) (pa_cons (pe_join pe_str (pe_op op_cat (pe_slice sl_list (pv 4) po_none (po_some (pe_op op_add (pv 5) pe_int))) (pe_slice sl_list (pv 4) (po_some (pv 5)) po_none))) pa_nil)))))
      (pss_cons (ps_set (i := 6) sc_law_bent.nd rfl (by first | exact Or.inl rfl | exact Or.inr rfl) (pe_op op_cat (pv 6) (pe_lst (pa_cons (pe_op op_add_str pe_str (pv 1)) (pa_cons (pe_op op_add_str (pv 1) pe_str) (pa_cons (pe_op op_add_str (pv 1) pe_str) (pa_cons (pe_upper (pv 1)) (pa_cons pe_str (pa_cons pe_str (pa_cons pe_str (pa_cons pe_str pa_nil)))))))))))
      (pss_cons (ps_set (i := 6) sc_law_bent.nd rfl (by first | exact Or.inl rfl | exact Or.inr rfl) (pe_op op_cat (pv 6) (pe_lst (pa_cons pe_str (pa_cons pe_str (pa_cons pe_str (pa_cons pe_str (pa_cons pe_str (pa_cons pe_str pa_nil)))))))))
      (pss_cons (ps_set (i := 6) sc_law_bent.nd rfl (by first | exact Or.inl rfl | exact Or.inr rfl) (pe_op op_cat (pv 6) (pe_lst (pa_cons pe_str (pa_cons pe_str pa_nil)))))
      (pss_one (ps_ret (pe_ix ix_list (pv 6) (pe_fn G_law_take (hr.mono (by decide)) rfl T.g_law_take pass0 (pa_cons (pv 0) (pa_cons (pe_callB call_len_seq rfl T.f_len (by decide +kernel) (pa_cons (pv 6) pa_nil)) pa_nil))) (fun _ _ => rfl))))))))))))), ?_⟩
    -- at
    refine ⟨_, rfl, _, rfl, t, rfl, size_of (by omega), _, _, rfl, rfl, p, _, v, rfl, hp, by omega, by omega, fun k1 v1 hk1 => ?_⟩
    have f1 : Fr [p] H (upd H p (.lst [.int v1])) := Fr.put (fun a u _ h => h) (by simp)
    have g1 : upd H p (.lst [.int v1]) p = some (.lst [.int v1]) := upd_same
    generalize upd H p (.lst [.int v1]) = H1 at *
    -- sign
    refine ⟨size_of (by show 9 ≤ 16000000; decide), fun q1 hq1 => ?_⟩
    have nq1 : p ≠ q1 := fun z => by rw [← z, g1] at hq1; cases hq1
    have e2 := Evl.Ex.new (o := .lst (signs9.map V.str)) hq1
    have c2 : upd H1 q1 (.lst (signs9.map V.str)) q1 = some (.lst (signs9.map V.str)) := upd_same
    have g2 := e2 _ _ g1
    have f2 := f1.trans_ex e2
    have hH2 : ∃ H2, H2 = upd H1 q1 (.lst (signs9.map V.str)) := ⟨_, rfl⟩
    obtain ⟨H2, eH2⟩ := hH2
    rw [← eH2] at c2 g2 f2
    have sg9 : upd H1 q1 (.lst [.str " ", .str "-", .str "a", .str "0", .str "1", .str "A", .str "\n", .str "  ", .str "9"]) = H2 := eH2.symm
    rw [sg9]
    refine ⟨_, rfl, p, 9, v1, rfl, g2, by decide, by decide, fun k2 v2 hk2 => ?_⟩
    have hk2n : k2 < 9 := by omega
    have f3 : Fr [p] H (upd H2 p (.lst [.int v2])) := f2.put (by simp)
    have g3 : upd H2 p (.lst [.int v2]) p = some (.lst [.int v2]) := upd_same
    have c3 : upd H2 p (.lst [.int v2]) q1 = some (.lst (signs9.map V.str)) := by rw [upd_ne nq1.symm]; exact c2
    generalize upd H2 p (.lst [.int v2]) = H3 at *
    refine ⟨q1, _, (k2 : Int), .str (signs9.getD k2 ""), rfl, rfl, SqL.of c3, get_str (K := K) (l := signs9) hk2n, ?_⟩
    obtain ⟨sl, so⟩ := signs9_ok hk2n
    generalize signs9.getD k2 "" = sg at *
    -- words
    refine ⟨_, rfl, ⟨_, rfl⟩, t, " ", rfl, rfl, (by decide +kernel), size_of (by omega), fun q2 hq2 => ?_⟩
    show gName 4 (V.ref q2) _ (upd H3 q2 (.lst ((wordsOf t).map V.str))) _
    have hwl := words_len t
    have hws : ∀ x ∈ wordsOf t, x.length ≤ 20 ∧ PyData.strOk x = true := fun x hx => ⟨Nat.le_trans (words_short hx) hl, words_ok hx ok⟩
    have hwp : 0 < (wordsOf t).length := List.length_pos_iff.mpr (words_ne t)
    generalize wordsOf t = ws at *
    have nq2 : p ≠ q2 := fun z => by rw [← z, g3] at hq2; cases hq2
    have e4 := Evl.Ex.new (o := .lst (ws.map V.str)) hq2
    have c4 : upd H3 q2 (.lst (ws.map V.str)) q2 = some (.lst (ws.map V.str)) := upd_same
    have g4 := e4 _ _ g3
    have f4 := f3.trans_ex e4
    generalize upd H3 q2 (.lst (ws.map V.str)) = H4 at *
    -- place
    have hwi : (((ws.map V.str).length : Nat) : Int) = (ws.length : Int) := by rw [List.length_map]
    refine ⟨_, rfl, _, rfl, q2, _, rfl, .inl (SqL.of c4), p, _, v2, rfl, g4, by omega, by omega, fun k5 v5 hk5 => ?_⟩
    have f5 : Fr [p] H (upd H4 p (.lst [.int v5])) := f4.put (by simp)
    have g5 : upd H4 p (.lst [.int v5]) p = some (.lst [.int v5]) := upd_same
    have c5 : upd H4 p (.lst [.int v5]) q2 = some (.lst (ws.map V.str)) := by rw [upd_ne nq2.symm]; exact c4
    generalize upd H4 p (.lst [.int v5]) = H5 at *
    have gp := g5
    have hA := cutS_length t none (some (k1 : Int))
    have hB := cutS_length t (some (k1 : Int)) none
    have hC := cutS_length t (some ((k1 : Int) + 1)) none
    have oA : PyData.strOk (cutS t none (some (k1 : Int))) = true := strOk_cut ok
    have oB : PyData.strOk (cutS t (some (k1 : Int)) none) = true := strOk_cut ok
    have oC : PyData.strOk (cutS t (some ((k1 : Int) + 1)) none) = true := strOk_cut ok
    have st : t.length ≤ sizeLine := size_of (by omega)
    -- the first four
    refine ⟨_, rfl, ?_⟩
    refine ⟨_, rfl, _, rfl, _, rfl, t, rfl, st, _, rfl, _, _, rfl, rfl, size_of (by omega), _, rfl, _, rfl, _, rfl, t, rfl, st, _, _, rfl, rfl, size_of (by rw [len_app]; omega), ?_⟩
    refine ⟨_, rfl, _, rfl, _, rfl, t, rfl, st, _, rfl, _, rfl, _, _, rfl, rfl, _, rfl, t, rfl, st, _, _, rfl, rfl, size_of (by omega), ?_⟩
    refine ⟨_, rfl, _, rfl, _, rfl, t, rfl, st, _, rfl, _, _, rfl, rfl, size_of (by omega), _, rfl, _, rfl, _, _, rfl, rfl, _, rfl, t, rfl, st, _, _, rfl, rfl, size_of (by rw [len_app]; omega), ?_⟩
    refine ⟨size_of (by show 4 ≤ 16000000; decide), fun a5 ha5 => ?_⟩
    have hz5 : ∃ z5 : List Str, z5 = [t, cutS t none (some (k1 : Int)) ++ sg ++ cutS t (some (k1 : Int)) none, cutS t none (some (k1 : Int)) ++ cutS t (some ((k1 : Int) + 1)) none, cutS t none (some (k1 : Int)) ++ sg ++ cutS t (some ((k1 : Int) + 1)) none] ∧ z5.length = 4 ∧ ∀ z ∈ z5, BentOk z := by
      refine ⟨_, rfl, rfl, fun z hz => ?_⟩
      rcases List.mem_cons.mp hz with rfl | hz
      · exact ⟨by omega, ok⟩
      rcases List.mem_cons.mp hz with rfl | hz
      · exact ⟨by rw [len_app, len_app]; omega, strOk_app (strOk_app oA so) oB⟩
      rcases List.mem_cons.mp hz with rfl | hz
      · exact ⟨by rw [len_app]; omega, strOk_app oA oC⟩
      · rw [List.mem_singleton.mp hz]
        exact ⟨by rw [len_app, len_app]; omega, strOk_app (strOk_app oA so) oC⟩
    obtain ⟨z5, ez5, lz5, bz5⟩ := hz5
    have hm5 : upd H5 a5 (.lst [.str t, .str (cutS t none (some (k1 : Int)) ++ sg ++ cutS t (some (k1 : Int)) none), .str (cutS t none (some (k1 : Int)) ++ cutS t (some ((k1 : Int) + 1)) none), .str (cutS t none (some (k1 : Int)) ++ sg ++ cutS t (some ((k1 : Int) + 1)) none)]) = upd H5 a5 (.lst (z5.map V.str)) := by rw [ez5]; rfl
    show gName 6 (V.ref a5) _ (upd H5 a5 (.lst [.str t, .str (cutS t none (some (k1 : Int)) ++ sg ++ cutS t (some (k1 : Int)) none), .str (cutS t none (some (k1 : Int)) ++ cutS t (some ((k1 : Int) + 1)) none), .str (cutS t none (some (k1 : Int)) ++ sg ++ cutS t (some ((k1 : Int) + 1)) none)])) _
    rw [hm5]
    have e6 := Evl.Ex.new (o := .lst (z5.map V.str)) ha5
    have ca5 : upd H5 a5 (.lst (z5.map V.str)) a5 = some (.lst (z5.map V.str)) := upd_same
    have c5 := e6 _ _ c5
    have g5 := e6 _ _ g5
    have x6 := e6
    generalize upd H5 a5 (.lst (z5.map V.str)) = H6 at *
    -- the two joins
    have k5n : (0 : Int) ≤ (k5 : Int) := by omega
    refine ⟨_, rfl, ⟨_, rfl⟩, _, rfl, _, rfl, _, rfl, q2, _, rfl, SqL.of c5, fun b1 hb1 => ?_⟩
    rw [cutV_L]
    have e7 := Evl.Ex.new (o := .lst ((cutL ws none (some (k5 : Int))).map V.str)) hb1
    have cb1 : upd H6 b1 (.lst ((cutL ws none (some (k5 : Int))).map V.str)) b1 = some (.lst ((cutL ws none (some (k5 : Int))).map V.str)) := upd_same
    have c5 := e7 _ _ c5
    have g5 := e7 _ _ g5
    have ca5 := e7 _ _ ca5
    have x7 := x6.trans e7
    generalize upd H6 b1 (.lst ((cutL ws none (some (k5 : Int))).map V.str)) = H7 at *
    refine ⟨_, rfl, _, rfl, _, _, rfl, rfl, _, rfl, q2, _, rfl, SqL.of c5, fun b2 hb2 => ?_⟩
    rw [cutV_L]
    have e8 := Evl.Ex.new (o := .lst ((cutL ws (some ((k5 : Int) + 1)) none).map V.str)) hb2
    have cb2 : upd H7 b2 (.lst ((cutL ws (some ((k5 : Int) + 1)) none).map V.str)) b2 = some (.lst ((cutL ws (some ((k5 : Int) + 1)) none).map V.str)) := upd_same
    have c5 := e8 _ _ c5
    have g5 := e8 _ _ g5
    have ca5 := e8 _ _ ca5
    have cb1 := e8 _ _ cb1
    have x8 := x7.trans e8
    generalize upd H7 b2 (.lst ((cutL ws (some ((k5 : Int) + 1)) none).map V.str)) = H8 at *
    have l1 := cutL_len ws none (some (k5 : Int))
    have l2 := cutL_len ws (some ((k5 : Int) + 1)) none
    have l3 := cutL_len ws none (some ((k5 : Int) + 1))
    have l4 := cutL_len ws (some (k5 : Int)) none
    have j1 := join_bent (l := cutL ws none (some (k5 : Int)) ++ cutL ws (some ((k5 : Int) + 1)) none) (fun x hx => (List.mem_append.mp hx).elim (fun h => hws x (cutL_mem h)) (fun h => hws x (cutL_mem h))) (by rw [List.length_append]; omega)
    have j2 := join_bent (l := cutL ws none (some ((k5 : Int) + 1)) ++ cutL ws (some (k5 : Int)) none) (fun x hx => (List.mem_append.mp hx).elim (fun h => hws x (cutL_mem h)) (fun h => hws x (cutL_mem h))) (by rw [List.length_append]; omega)
    refine ⟨b1, b2, _, _, rfl, rfl, cb1, cb2, size_of (by rw [List.length_map, List.length_map]; omega), fun b3 hb3 => ?_⟩
    rw [← List.map_append]
    have e9 := Evl.Ex.new (o := .lst ((cutL ws none (some (k5 : Int)) ++ cutL ws (some ((k5 : Int) + 1)) none).map V.str)) hb3
    have cb3 : upd H8 b3 (.lst ((cutL ws none (some (k5 : Int)) ++ cutL ws (some ((k5 : Int) + 1)) none).map V.str)) b3 = some (.lst ((cutL ws none (some (k5 : Int)) ++ cutL ws (some ((k5 : Int) + 1)) none).map V.str)) := upd_same
    have c5 := e9 _ _ c5
    have g5 := e9 _ _ g5
    have ca5 := e9 _ _ ca5
    have x9 := x8.trans e9
    generalize upd H8 b3 (.lst ((cutL ws none (some (k5 : Int)) ++ cutL ws (some ((k5 : Int) + 1)) none).map V.str)) = H9 at *
    refine ⟨" ", b3, _, rfl, rfl, .inl (SqL.of cb3), j1.2, ?_⟩
    refine ⟨⟨_, rfl⟩, _, rfl, _, rfl, _, _, rfl, rfl, _, rfl, q2, _, rfl, SqL.of c5, fun d1 hd1 => ?_⟩
    rw [cutV_L]
    have e10 := Evl.Ex.new (o := .lst ((cutL ws none (some ((k5 : Int) + 1))).map V.str)) hd1
    have cd1 : upd H9 d1 (.lst ((cutL ws none (some ((k5 : Int) + 1))).map V.str)) d1 = some (.lst ((cutL ws none (some ((k5 : Int) + 1))).map V.str)) := upd_same
    have c5 := e10 _ _ c5
    have g5 := e10 _ _ g5
    have ca5 := e10 _ _ ca5
    have x10 := x9.trans e10
    generalize upd H9 d1 (.lst ((cutL ws none (some ((k5 : Int) + 1))).map V.str)) = H10 at *
    refine ⟨_, rfl, _, rfl, _, rfl, q2, _, rfl, SqL.of c5, fun d2 hd2 => ?_⟩
    rw [cutV_L]
    have e11 := Evl.Ex.new (o := .lst ((cutL ws (some (k5 : Int)) none).map V.str)) hd2
    have cd2 : upd H10 d2 (.lst ((cutL ws (some (k5 : Int)) none).map V.str)) d2 = some (.lst ((cutL ws (some (k5 : Int)) none).map V.str)) := upd_same
    have c5 := e11 _ _ c5
    have g5 := e11 _ _ g5
    have ca5 := e11 _ _ ca5
    have cd1 := e11 _ _ cd1
    have x11 := x10.trans e11
    generalize upd H10 d2 (.lst ((cutL ws (some (k5 : Int)) none).map V.str)) = H11 at *
    refine ⟨d1, d2, _, _, rfl, rfl, cd1, cd2, size_of (by rw [List.length_map, List.length_map]; omega), fun d3 hd3 => ?_⟩
    rw [← List.map_append]
    have e12 := Evl.Ex.new (o := .lst ((cutL ws none (some ((k5 : Int) + 1)) ++ cutL ws (some (k5 : Int)) none).map V.str)) hd3
    have cd3 : upd H11 d3 (.lst ((cutL ws none (some ((k5 : Int) + 1)) ++ cutL ws (some (k5 : Int)) none).map V.str)) d3 = some (.lst ((cutL ws none (some ((k5 : Int) + 1)) ++ cutL ws (some (k5 : Int)) none).map V.str)) := upd_same
    have c5 := e12 _ _ c5
    have g5 := e12 _ _ g5
    have ca5 := e12 _ _ ca5
    have x12 := x11.trans e12
    generalize upd H11 d3 (.lst ((cutL ws none (some ((k5 : Int) + 1)) ++ cutL ws (some (k5 : Int)) none).map V.str)) = H12 at *
    refine ⟨" ", d3, _, rfl, rfl, .inl (SqL.of cd3), j2.2, ?_⟩
    refine ⟨size_of (by show 2 ≤ 16000000; decide), fun a6 ha6 => ?_⟩
    have bz6 : ∀ z ∈ [Txt.join " " (cutL ws none (some (k5 : Int)) ++ cutL ws (some ((k5 : Int) + 1)) none), Txt.join " " (cutL ws none (some ((k5 : Int) + 1)) ++ cutL ws (some (k5 : Int)) none)], BentOk z := fun z hz => by
      rcases List.mem_cons.mp hz with rfl | hz
      · exact j1.1
      · rw [List.mem_singleton.mp hz]
        exact j2.1
    have hz6 : ∃ z6 : List Str, z6 = [Txt.join " " (cutL ws none (some (k5 : Int)) ++ cutL ws (some ((k5 : Int) + 1)) none), Txt.join " " (cutL ws none (some ((k5 : Int) + 1)) ++ cutL ws (some (k5 : Int)) none)] ∧ z6.length = 2 ∧ ∀ z ∈ z6, BentOk z := ⟨_, rfl, rfl, bz6⟩
    obtain ⟨z6, ez6, lz6, bz6⟩ := hz6
    have hm6 : upd H12 a6 (.lst [.str (Txt.join " " (cutL ws none (some (k5 : Int)) ++ cutL ws (some ((k5 : Int) + 1)) none)), .str (Txt.join " " (cutL ws none (some ((k5 : Int) + 1)) ++ cutL ws (some (k5 : Int)) none))]) = upd H12 a6 (.lst (z6.map V.str)) := by rw [ez6]; rfl
    show rCat _ _ (upd H12 a6 (.lst [.str (Txt.join " " (cutL ws none (some (k5 : Int)) ++ cutL ws (some ((k5 : Int) + 1)) none)), .str (Txt.join " " (cutL ws none (some ((k5 : Int) + 1)) ++ cutL ws (some (k5 : Int)) none))])) _
    rw [hm6]
    have e13 := Evl.Ex.new (o := .lst (z6.map V.str)) ha6
    have ca6 : upd H12 a6 (.lst (z6.map V.str)) a6 = some (.lst (z6.map V.str)) := upd_same
    have c5 := e13 _ _ c5
    have g5 := e13 _ _ g5
    have ca5 := e13 _ _ ca5
    have x13 := x12.trans e13
    generalize upd H12 a6 (.lst (z6.map V.str)) = H13 at *
    refine ⟨a5, a6, _, _, rfl, rfl, ca5, ca6, size_of (by rw [List.length_map, List.length_map]; omega), fun a7 ha7 => ?_⟩
    rw [← List.map_append]
    have e14 := Evl.Ex.new (o := .lst ((z5 ++ z6).map V.str)) ha7
    have ca7 : upd H13 a7 (.lst ((z5 ++ z6).map V.str)) a7 = some (.lst ((z5 ++ z6).map V.str)) := upd_same
    have g5 := e14 _ _ g5
    have x14 := x13.trans e14
    generalize upd H13 a7 (.lst ((z5 ++ z6).map V.str)) = H14 at *
    -- eight more
    have hup := len_upper t
    have h1l : (" " : Str).length = 1 := by decide +kernel
    have h2l : (" 1" : Str).length = 2 := by decide +kernel
    refine ⟨_, rfl, _, rfl, _, _, rfl, rfl, size_of (by omega), _, rfl, _, _, rfl, rfl, size_of (by omega), _, rfl, _, _, rfl, rfl, size_of (by omega), _, rfl, ⟨_, rfl⟩, t, rfl, rfl, by omega, size_of (by show 8 ≤ 16000000; decide), fun a8 ha8 => ?_⟩
    have hz8 : ∃ z8 : List Str, z8 = [" " ++ t, t ++ " ", t ++ " 1", Txt.upper t, "", "machine", "machine ", "run one 201"] ∧ z8.length = 8 ∧ ∀ z ∈ z8, BentOk z := by
      refine ⟨_, rfl, rfl, fun z hz => ?_⟩
      rcases List.mem_cons.mp hz with rfl | hz
      · exact ⟨by rw [len_app]; omega, strOk_app (by decide +kernel) ok⟩
      rcases List.mem_cons.mp hz with rfl | hz
      · exact ⟨by rw [len_app]; omega, strOk_app ok (by decide +kernel)⟩
      rcases List.mem_cons.mp hz with rfl | hz
      · exact ⟨by rw [len_app]; omega, strOk_app ok (by decide +kernel)⟩
      rcases List.mem_cons.mp hz with rfl | hz
      · exact ⟨by omega, oku⟩
      · have a : ∀ z ∈ (["", "machine", "machine ", "run one 201"] : List Str), z.length ≤ 1000 ∧ PyData.strOk z = true := by decide +kernel
        exact a z hz
    obtain ⟨z8, ez8, lz8, bz8⟩ := hz8
    have hm8 : upd H14 a8 (.lst [.str (" " ++ t), .str (t ++ " "), .str (t ++ " 1"), .str (Txt.upper t), .str (""), .str ("machine"), .str ("machine "), .str ("run one 201")]) = upd H14 a8 (.lst (z8.map V.str)) := by rw [ez8]; rfl
    show rCat _ _ (upd H14 a8 (.lst [.str (" " ++ t), .str (t ++ " "), .str (t ++ " 1"), .str (Txt.upper t), .str (""), .str ("machine"), .str ("machine "), .str ("run one 201")])) _
    rw [hm8]
    have e15 := Evl.Ex.new (o := .lst (z8.map V.str)) ha8
    have ca8 : upd H14 a8 (.lst (z8.map V.str)) a8 = some (.lst (z8.map V.str)) := upd_same
    have g5 := e15 _ _ g5
    have ca7 := e15 _ _ ca7
    have x15 := x14.trans e15
    generalize upd H14 a8 (.lst (z8.map V.str)) = H15 at *
    refine ⟨a7, a8, _, _, rfl, rfl, ca7, ca8, size_of (by rw [List.length_map, List.length_map, List.length_append]; omega), fun a9 ha9 => ?_⟩
    rw [← List.map_append]
    have e16 := Evl.Ex.new (o := .lst (((z5 ++ z6) ++ z8).map V.str)) ha9
    have ca9 : upd H15 a9 (.lst (((z5 ++ z6) ++ z8).map V.str)) a9 = some (.lst (((z5 ++ z6) ++ z8).map V.str)) := upd_same
    have g5 := e16 _ _ g5
    have x16 := x15.trans e16
    generalize upd H15 a9 (.lst (((z5 ++ z6) ++ z8).map V.str)) = H16 at *
    refine ⟨_, rfl, size_of (by show 6 ≤ 16000000; decide), fun a10 ha10 => ?_⟩
    have hz10 : ∃ z10 : List Str, z10 = (["fate one 401", "count one 5", "run one 07", "put one", "gone", "machine 5 a"] : List Str) ∧ z10.length = 6 ∧ ∀ z ∈ z10, BentOk z := by
      refine ⟨_, rfl, rfl, fun z hz => ?_⟩
      have a : ∀ z ∈ (["fate one 401", "count one 5", "run one 07", "put one", "gone", "machine 5 a"] : List Str), z.length ≤ 1000 ∧ PyData.strOk z = true := by decide +kernel
      exact a z hz
    obtain ⟨z10, ez10, lz10, bz10⟩ := hz10
    have hm10 : upd H16 a10 (.lst [.str "fate one 401", .str "count one 5", .str "run one 07", .str "put one", .str "gone", .str "machine 5 a"]) = upd H16 a10 (.lst (z10.map V.str)) := by rw [ez10]; rfl
    show rCat _ _ (upd H16 a10 (.lst [.str "fate one 401", .str "count one 5", .str "run one 07", .str "put one", .str "gone", .str "machine 5 a"])) _
    rw [hm10]
    have e17 := Evl.Ex.new (o := .lst (z10.map V.str)) ha10
    have ca10 : upd H16 a10 (.lst (z10.map V.str)) a10 = some (.lst (z10.map V.str)) := upd_same
    have g5 := e17 _ _ g5
    have ca9 := e17 _ _ ca9
    have x17 := x16.trans e17
    generalize upd H16 a10 (.lst (z10.map V.str)) = H17 at *
    refine ⟨a9, a10, _, _, rfl, rfl, ca9, ca10, size_of (by simp only [List.length_map, List.length_append]; omega), fun a10n ha10n => ?_⟩
    rw [← List.map_append]
    have e18 := Evl.Ex.new (o := .lst ((((z5 ++ z6) ++ z8) ++ z10).map V.str)) ha10n
    have ca10n : upd H17 a10n (.lst ((((z5 ++ z6) ++ z8) ++ z10).map V.str)) a10n = some (.lst ((((z5 ++ z6) ++ z8) ++ z10).map V.str)) := upd_same
    have g5 := e18 _ _ g5
    have x18 := x17.trans e18
    generalize upd H17 a10n (.lst ((((z5 ++ z6) ++ z8) ++ z10).map V.str)) = H18 at *
    refine ⟨_, rfl, size_of (by show 2 ≤ 16000000; decide), fun a12 ha12 => ?_⟩
    have hz12 : ∃ z12 : List Str, z12 = (["machine 1 b", "undo -"] : List Str) ∧ z12.length = 2 ∧ ∀ z ∈ z12, BentOk z := by
      refine ⟨_, rfl, rfl, fun z hz => ?_⟩
      have a : ∀ z ∈ (["machine 1 b", "undo -"] : List Str), z.length ≤ 1000 ∧ PyData.strOk z = true := by decide +kernel
      exact a z hz
    obtain ⟨z12, ez12, lz12, bz12⟩ := hz12
    have hm12 : upd H18 a12 (.lst [.str "machine 1 b", .str "undo -"]) = upd H18 a12 (.lst (z12.map V.str)) := by rw [ez12]; rfl
    show rCat _ _ (upd H18 a12 (.lst [.str "machine 1 b", .str "undo -"])) _
    rw [hm12]
    have e19 := Evl.Ex.new (o := .lst (z12.map V.str)) ha12
    have ca12 : upd H18 a12 (.lst (z12.map V.str)) a12 = some (.lst (z12.map V.str)) := upd_same
    have g5 := e19 _ _ g5
    have ca10n := e19 _ _ ca10n
    have x19 := x18.trans e19
    generalize upd H18 a12 (.lst (z12.map V.str)) = H19 at *
    refine ⟨a10n, a12, _, _, rfl, rfl, ca10n, ca12, size_of (by simp only [List.length_map, List.length_append]; omega), fun a12n ha12n => ?_⟩
    rw [← List.map_append]
    have e20 := Evl.Ex.new (o := .lst (((((z5 ++ z6) ++ z8) ++ z10) ++ z12).map V.str)) ha12n
    have ca12n : upd H19 a12n (.lst (((((z5 ++ z6) ++ z8) ++ z10) ++ z12).map V.str)) a12n = some (.lst (((((z5 ++ z6) ++ z8) ++ z10) ++ z12).map V.str)) := upd_same
    have g5 := e20 _ _ g5
    have x20 := x19.trans e20
    generalize upd H19 a12n (.lst (((((z5 ++ z6) ++ z8) ++ z10) ++ z12).map V.str)) = H20 at *
    -- one of them
    have hzl : (((((z5 ++ z6) ++ z8) ++ z10) ++ z12)).length = 22 := by
      simp only [List.length_append]
      omega
    have hzb : ∀ z ∈ ((((z5 ++ z6) ++ z8) ++ z10) ++ z12), BentOk z := fun z hz => by
      rcases List.mem_append.mp hz with hz | hz
      · rcases List.mem_append.mp hz with hz | hz
        · rcases List.mem_append.mp hz with hz | hz
          · rcases List.mem_append.mp hz with hz | hz
            · exact bz5 z hz
            · exact bz6 z hz
          · exact bz8 z hz
        · exact bz10 z hz
      · exact bz12 z hz
    have nq : p ≠ a12n := fun z => by
      have y := x19 _ _ gp
      rw [z, ha12n] at y
      cases y
    generalize (((((z5 ++ z6) ++ z8) ++ z10) ++ z12)) = zz at *
    refine ⟨_, rfl, _, rfl, _, rfl, a12n, _, rfl, .inl (SqL.of ca12n), p, _, v5, rfl, g5, by rw [List.length_map]; omega, by rw [List.length_map]; omega, fun k9 v9 hk9 => ?_⟩
    have hk9n : k9 < zz.length := by
      rw [List.length_map] at hk9
      omega
    have f9 : Fr [p] H (upd H20 p (.lst [.int v9])) := (f5.trans_ex x20).put (by simp)
    refine ⟨a12n, _, (k9 : Int), .str (zz.getD k9 ""), rfl, rfl, SqL.of (by rw [upd_ne nq.symm]; exact ca12n), get_str (K := K) hk9n, ?_⟩
    exact q _ v9 _ f9 upd_same (hzb _ (get_mem hk9n))
end
end Tg

namespace Tg
open PySem PySem.Spec PyProof.Rows L2
/-! ### what is seen of a desk -/
def TV (H : Hp) (v : V) (D : PyData) : Prop := (∃ s, PyData.strOk s = true ∧ v = .str s ∧ D = .str s) ∨ (∃ p s, PyData.strOk s = true ∧ v = .ref p ∧ H p = some (.lst [.str s]) ∧ D = .list [.str s])
theorem TV.ex {H H' : Hp} {v : V} {D : PyData} (h : TV H v D) (e : Evl.Ex H H') : TV H' v D := by
  rcases h with h | ⟨p, s, o, e1, e2, e3⟩
  · exact .inl h
  · exact .inr ⟨p, s, o, e1, e _ _ e2, e3⟩
theorem TV.set {H : Hp} {v : V} {D : PyData} {q : Addr} {o : HO} (h : TV H v D) (n : v ≠ .ref q) : TV (upd H q o) v D := by
  rcases h with h | ⟨p, s, ok, e1, e2, e3⟩
  · exact .inl h
  · have : p ≠ q := fun z => n (by rw [e1, z])
    exact .inr ⟨p, s, ok, e1, by rw [upd_ne this]; exact e2, e3⟩
theorem TV.dp {K : PySem.W.Frag} {H : Hp} {v : V} {D : PyData} (h : TV H v D) : Dp K H v D := by
  rcases h with ⟨s, _, rfl, rfl⟩ | ⟨p, s, _, rfl, e, rfl⟩
  · exact .str s
  · exact .lst (SqL.of e) (.cons (.str s) .nil)
theorem TV.lay {H : Hp} {v : V} {D : PyData} (h : TV H v D) : D.canLay0 = true ∧ D.depth ≤ 2 := by
  rcases h with ⟨s, o, _, rfl⟩ | ⟨p, s, o, _, _, rfl⟩
  · exact ⟨by simp only [PyData.canLay0]; exact o, by simp only [PyData.depth]; omega⟩
  · refine ⟨?_, by simp only [PyData.depth, PyData.depthAll]; omega⟩
    simp only [PyData.canLay0, PyData.canLayAll0]
    rw [o]
    rfl
theorem TV.shaped {H : Hp} {v : V} {D : PyData} (h : TV H v D) : SeqAt.shaped D = true := by
  obtain ⟨h1, h2⟩ := h.lay
  show (D.canLay0 && decide (D.depth ≤ 64)) = true
  rw [h1, decide_eq_true (by omega)]
  rfl
theorem shapedAll : ∀ {l : List PyData}, (∀ D ∈ l, D.canLay0 = true ∧ D.depth ≤ 2) → PyData.canLayAll0 l = true ∧ PyData.depthAll l ≤ 2
  | [], _ => ⟨rfl, by simp [PyData.depthAll]⟩
  | D :: r, h => by
    obtain ⟨h1, h2⟩ := h D (List.mem_cons_self ..)
    obtain ⟨h3, h4⟩ := shapedAll (l := r) fun D hD => h D (List.mem_cons_of_mem _ hD)
    refine ⟨?_, ?_⟩
    · simp only [PyData.canLayAll0]
      rw [h1, h3]
      rfl
    · simp only [PyData.depthAll]
      omega
theorem shaped_list {l : List PyData} (h : ∀ D ∈ l, D.canLay0 = true ∧ D.depth ≤ 2) : SeqAt.shaped (.list l) = true ∧ PyData.canLay0 (.list l) = true := by
  obtain ⟨h1, h2⟩ := shapedAll h
  have h3 : PyData.canLay0 (.list l) = true := by simp only [PyData.canLay0]; exact h1
  have h4 : PyData.depth (.list l) ≤ 64 := by simp only [PyData.depth]; omega
  refine ⟨?_, h3⟩
  show (PyData.canLay0 (.list l) && decide (PyData.depth (.list l) ≤ 64)) = true
  rw [h3, decide_eq_true h4]
  rfl
def SeenD (H : Hp) (kvs : List (Key × V)) (ws : List Str) (D : PyData) : Prop := (∃ s, QAns H kvs ws s ∧ D = .list [.str s]) ∨ (QErr kvs ws ∧ D = .str "name")
theorem QAns.one {H : Hp} {kvs : List (Key × V)} {ws : List Str} {s s' : Str} (h : QAns H kvs ws s) (h' : QAns H kvs ws s') : s = s' := by
  have n1 : ("names" : Str) ≠ "row" := by decide +kernel
  have n2 : ("names" : Str) ≠ "gone" := by decide +kernel
  have n3 : ("row" : Str) ≠ "gone" := by decide +kernel
  rcases h with ⟨a, ys, p1, s1, e1⟩ | ⟨a, t, r, g, e1, e2, e3⟩ | ⟨a, t, r, g, e1, e2, e3⟩
  · rcases h' with ⟨b, zs, p2, s2, e2⟩ | ⟨b, _⟩ | ⟨b, _⟩
    · rw [e1, e2, sorted_one s1 s2 p1 p2]
    · exact absurd (a.symm.trans b) n1
    · exact absurd (a.symm.trans b) n2
  · rcases h' with ⟨b, _⟩ | ⟨b, t', r', g', f1, f2, f3⟩ | ⟨b, _⟩
    · exact absurd (b.symm.trans a) n1
    · have z := e1.symm.trans f1
      cases z
      have z := e2.symm.trans f2
      cases z
      rw [e3, f3]
    · exact absurd (a.symm.trans b) n3
  · rcases h' with ⟨b, _⟩ | ⟨b, _⟩ | ⟨b, t', r', g', f1, f2, f3⟩
    · exact absurd (b.symm.trans a) n2
    · exact absurd (b.symm.trans a) n3
    · have z := e1.symm.trans f1
      cases z
      have z := e2.symm.trans f2
      cases z
      rw [e3, f3]
theorem QAns.not_err {H : Hp} {kvs : List (Key × V)} {ws : List Str} {s : Str} (h : QAns H kvs ws s) (h' : QErr kvs ws) : False := by
  have n1 : ("names" : Str) ≠ "row" := by decide +kernel
  have n2 : ("names" : Str) ≠ "gone" := by decide +kernel
  obtain ⟨b, e⟩ := h'
  rcases h with ⟨a, _⟩ | ⟨a, t, r, g, e1, _⟩ | ⟨a, t, r, g, e1, _⟩
  · rcases b with b | b
    · exact n1 (a.symm.trans b)
    · exact n2 (a.symm.trans b)
  · rw [e] at e1
    cases e1
  · rw [e] at e1
    cases e1
theorem SeenD.one {H : Hp} {kvs : List (Key × V)} {ws : List Str} {D D' : PyData} (h : SeenD H kvs ws D) (h' : SeenD H kvs ws D') : D = D' := by
  rcases h with ⟨s, a, rfl⟩ | ⟨a, rfl⟩
  · rcases h' with ⟨s', b, rfl⟩ | ⟨b, rfl⟩
    · rw [a.one b]
    · exact (a.not_err b).elim
  · rcases h' with ⟨s', b, rfl⟩ | ⟨b, rfl⟩
    · exact (b.not_err a).elim
    · rfl
def qTexts : List Str := ["names", "row one", "row two", "gone one"]
theorem qTexts_ok : ∀ i : Fin 4, rowB (qTexts.getD i.val "") = true ∧ Txt.startswith (qTexts.getD i.val "") "machine " = false ∧ (qTexts.getD i.val "").length ≤ 5000 ∧ ((wordsOf (qTexts.getD i.val "")).getD 0 "" = "names" ∨ (wordsOf (qTexts.getD i.val "")).getD 0 "" = "row" ∨ (wordsOf (qTexts.getD i.val "")).getD 0 "" = "gone") := by decide +kernel
/-- four things seen, H the heap before, H' the heap behind -/
def SeenL (H H' : Hp) (kvs : List (Key × V)) (l : List (V × PyData)) : Prop := l.length = 4 ∧ ∀ (j : Nat) v D, l[j]? = some (v, D) → TV H' v D ∧ SeenD H kvs (wordsOf (qTexts.getD j "")) D
theorem SeenL.one {H H1 H2 : Hp} {kvs : List (Key × V)} {l1 l2 : List (V × PyData)} (h1 : SeenL H H1 kvs l1) (h2 : SeenL H H2 kvs l2) : l1.map (·.2) = l2.map (·.2) := by
  apply List.ext_getElem?
  intro j
  rw [List.getElem?_map, List.getElem?_map]
  by_cases hj : j < 4
  · have a1 : l1[j]? = some (l1[j]'(by rw [h1.1]; exact hj)) := List.getElem?_eq_getElem _
    have a2 : l2[j]? = some (l2[j]'(by rw [h2.1]; exact hj)) := List.getElem?_eq_getElem _
    rw [a1, a2]
    have b1 := (h1.2 j _ _ a1).2
    have b2 := (h2.2 j _ _ a2).2
    exact congrArg some (b1.one b2)
  · rw [List.getElem?_eq_none (by rw [h1.1]; omega), List.getElem?_eq_none (by rw [h2.1]; omega)]
theorem dpAll_pairs {K : PySem.W.Frag} {H : Hp} : ∀ {l : List (V × PyData)}, (∀ q ∈ l, TV H q.1 q.2) → DpAll K H (l.map (·.1)) (l.map (·.2))
  | [], _ => .nil
  | q :: r, h => .cons (h q (List.mem_cons_self ..)).dp (dpAll_pairs fun x hx => h x (List.mem_cons_of_mem _ hx))
theorem SeenL.tv {H H' : Hp} {kvs : List (Key × V)} {l : List (V × PyData)} (h : SeenL H H' kvs l) : ∀ q ∈ l, TV H' q.1 q.2 := fun q hq => by
  obtain ⟨j, hj, e⟩ := List.mem_iff_getElem.mp hq
  exact (h.2 j q.1 q.2 (by rw [List.getElem?_eq_getElem hj, e])).1
section
variable {P : Program} {w : World} {K : PySem.W.Frag} {mg : Str → Option Value} {base : Heap}
def spSeen (K : PySem.W.Frag) : Sp := fun vs H Q _ => ∃ (d ddx b e : Addr) (L : Nat) (words : List Str) (kvs : List (Key × V)), vs = [.ref d] ∧ H d = some (.ins (He.ga K "Desk") ddx [("own", .ref b)]) ∧ BenchT K H b e L words kvs ∧ L ≤ 1000000 ∧
  ∀ H' r l, Evl.Ex H H' → H' r = some (.lst (l.map (·.1))) → SeenL H H' kvs l → Q (.ref r) H'
theorem k_seen (T : Txt w K mg) : Kp P w K mg base CX0 9 (He.fAd K ("_law_seen", none)) P_law_seen (spSeen K) := by
  have G_law_desk_told := k_told (P := P) (base := base) T
  refine Kp.of T.d_law_seen sc_law_seen bn_law_seen (fun vs H Q E h => ?_) (fun f cdv A outer s H vs Q E hr h => ?_)
  · obtain ⟨d, ddx, b, e, L, words, kvs, rfl, _⟩ := h
    rfl
  · obtain ⟨d, ddx, b, e, L, words, kvs, rfl, hd, hB, hL, q⟩ := h
    refine ⟨_, (pss_one (ps_ret (pe_lc (own := [("text", 1)]) (g := gName 1) (by rfl) sc_law_seen.nd (pi_list (pe_lst (pa_cons pe_str (pa_cons pe_str (pa_cons pe_str (pa_cons pe_str pa_nil)))))) (blkOk_by (own := [("text", 1)]) (N := N_law_seen) (sc := defScope s_law_seen) (by decide +kernel)) (fun _ _ _ _ _ => pg_name (i := 1) sc_law_seen.nd rfl (by first | exact Or.inl rfl | exact Or.inr rfl)) (fun _ _ _ _ _ => pts_nil) (fun _ _ _ _ _ => (pe_fn G_law_desk_told (hr.mono (by decide)) rfl T.g_law_desk_told pass0 (pa_cons (pv 0) (pa_cons (pv 1) pa_nil))))))), ?_⟩
    obtain ⟨dxB, mB, kB, fB, esB, BB⟩ := id hB
    refine ⟨size_of (by show 4 ≤ 16000000; decide), fun p hp => ?_⟩
    have e1 := Evl.Ex.new (o := .lst (qTexts.map V.str)) hp
    refine ⟨p, rfl, ⟨_, SqL.of upd_same⟩, fun D hD => lc_it (walk_list (xs := qTexts.map V.str)) (fun i H' => Evl.Ex (upd H p (.lst (qTexts.map V.str))) H' ∧ ∃ l : List (V × PyData), H' D = some (.lst (l.map (·.1))) ∧ l.length = i ∧ ∀ (j : Nat) v dd, l[j]? = some (v, dd) → TV H' v dd ∧ SeenD H kvs (wordsOf (qTexts.getD j "")) dd ∧ v ≠ .ref D)
      ⟨Evl.Ex.new hD, [], upd_same, rfl, fun j v dd h => by simp at h⟩ (fun i H' _ z => SqL.of (z.1 _ _ upd_same)) ?_ ?_⟩
    · rintro i x Hx Hx' hi ⟨ex, l, hDl, hll, hall⟩ ⟨rfl, hx⟩
      have hi4 : i < 4 := hi
      have hxw : x = .str (qTexts.getD i "") := by
        rw [List.getElem?_map, List.getElem?_eq_getElem (show i < qTexts.length from hi4)] at hx
        rw [← Option.some.inj hx, List.getD_eq_getElem?_getD, List.getElem?_eq_getElem (show i < qTexts.length from hi4)]
        rfl
      subst hxw
      obtain ⟨hrow, hst, hlen, hq⟩ := qTexts_ok ⟨i, hi4⟩
      simp only at hrow hst hlen hq
      generalize htx : qTexts.getD i "" = tx at *
      have exH := e1.trans ex
      refine ⟨rfl, ?_⟩
      have hput : ∀ (v : V) (dd : PyData) (H2 : Hp), Evl.Ex Hx' H2 → TV H2 v dd → SeenD H kvs (wordsOf tx) dd → v ≠ .ref D → ∃ acc, H2 D = some (.lst acc) ∧ acc.length < sizeLine ∧ (Evl.Ex (upd H p (.lst (qTexts.map V.str))) (upd H2 D (.lst (acc ++ [v]))) ∧ ∃ l : List (V × PyData), upd H2 D (.lst (acc ++ [v])) D = some (.lst (l.map (·.1))) ∧ l.length = i + 1 ∧ ∀ (j : Nat) v' dd', l[j]? = some (v', dd') → TV (upd H2 D (.lst (acc ++ [v]))) v' dd' ∧ SeenD H kvs (wordsOf (qTexts.getD j "")) dd' ∧ v' ≠ .ref D) := by
        intro v dd H2 ex2 htv hsd hvD
        refine ⟨_, ex2 _ _ hDl, size_lt (by rw [List.length_map]; omega), Evl.Ex.mut (ex.trans ex2) hD, l ++ [(v, dd)], ?_, by rw [List.length_append, hll]; rfl, fun j v' dd' h => ?_⟩
        · rw [upd_same, List.map_append]
          rfl
        · by_cases hj : j < l.length
          · rw [List.getElem?_append_left hj] at h
            obtain ⟨a1, a2, a3⟩ := hall j v' dd' h
            exact ⟨(a1.ex ex2).set a3, a2, a3⟩
          · rw [List.getElem?_append_right (by omega)] at h
            have hj0 : j - l.length = 0 := by
              by_cases z : j - l.length = 0
              · exact z
              · rw [List.getElem?_eq_none (by simp; omega)] at h
                cases h
            rw [hj0] at h
            have h := Option.some.inj h
            have hji : j = i := by omega
            cases h
            rw [hji, htx]
            exact ⟨htv.set hvD, hsd, hvD⟩
      refine ⟨_, rfl, _, rfl, d, ddx, .ref b, .str tx, rfl, exH _ _ hd, ?_⟩
      refine ⟨d, ddx, .ref b, .str tx, rfl, exH _ _ hd, .inr ⟨tx, rfl, hlen, fun z => ?_, fun _ z => ?_, fun _ _ => .inr ⟨b, e, L, words, kvs, rfl, hB.ex exH (Nat.le_refl L), hL, fun s H2 kvs' fr hB' hs hqq hpp => ?_, fun C hC H2 ex2 hqq hpp => ?_⟩⟩⟩
      · rw [hrow] at z; cases z
      · rw [hst] at z; cases z
      · obtain ⟨ex2, ans⟩ := hqq hq
        intro p2 hp2
        have ex3 := ex2.trans (Evl.Ex.new (o := .lst [.str s]) hp2)
        have hpD : (.ref p2 : V) ≠ .ref D := fun z => by
          have z := V.ref.inj z
          have y := ex2 _ _ hDl
          rw [← z, hp2] at y
          cases y
        exact hput (.ref p2) (.list [.str s]) _ ex3 (.inr ⟨p2, s, hs.2, rfl, upd_same, rfl⟩) (.inl ⟨s, ans.back BB.kept exH, rfl⟩) hpD
      · obtain ⟨herr, rfl⟩ := hqq hq
        refine ⟨"NoName", by simp [errs7], rfl, rfl, fun H3 ex3 => ?_⟩
        have ek : kindW "NoName" = "name" := by decide +kernel
        rw [ek]
        exact hput (.str "name") (.str "name") H3 (ex2.trans ex3) (.inl ⟨"name", by decide +kernel, rfl, rfl⟩) (.inr ⟨herr, rfl⟩) (fun z => by cases z)
    · rintro H1 ⟨ex, l, hDl, hll, hall⟩
      exact q H1 D l (e1.trans ex) hDl ⟨hll, fun j v dd h => ⟨(hall j v dd h).1, (hall j v dd h).2.1⟩⟩
end
end Tg

namespace Tg
open PySem PySem.Spec PyProof.Rows L2
/-! ### the law's desk, and what stands beside it -/
structure LAt (K : PySem.W.Frag) (H0 H : Hp) (d ddx b e : Addr) (L : Nat) (X : List (Addr × HO)) (words : List Str) (kvs : List (Key × V)) : Prop where
  ex0 : Evl.Ex H0 H
  d0 : H0 d = none
  b0 : H0 b = none
  e0 : H0 e = none
  at_ : H d = some (.ins (He.ga K "Desk") ddx [("own", .ref b)])
  ben : BenchT K H b e L words kvs
  oth : ∀ x ∈ X, H x.1 = some x.2 ∧ x.1 ≠ d ∧ x.1 ≠ b ∧ x.1 ≠ e
section
variable {K : PySem.W.Frag} {H0 H H' : Hp} {d ddx b e : Addr} {L L' : Nat} {X X' : List (Addr × HO)} {words words' : List Str} {kvs kvs' : List (Key × V)}
theorem LAt.ex (h : LAt K H0 H d ddx b e L X words kvs) (x : Evl.Ex H H') (l : L ≤ L') : LAt K H0 H' d ddx b e L' X words kvs :=
  ⟨h.ex0.trans x, h.d0, h.b0, h.e0, x _ _ h.at_, h.ben.ex x l, fun q hq => ⟨x _ _ (h.oth q hq).1, (h.oth q hq).2⟩⟩
theorem LAt.sub (h : LAt K H0 H d ddx b e L X words kvs) (s : ∀ q ∈ X', q ∈ X) : LAt K H0 H d ddx b e L X' words kvs :=
  ⟨h.ex0, h.d0, h.b0, h.e0, h.at_, h.ben, fun q hq => h.oth q (s q hq)⟩
theorem LAt.has (h : LAt K H0 H d ddx b e L X words kvs) : H d ≠ none ∧ H b ≠ none ∧ H e ≠ none := by
  obtain ⟨dx, m, k, f, es, B⟩ := h.ben
  exact ⟨by rw [h.at_]; simp, by rw [B.at_]; simp, by rw [B.ear]; simp⟩
/-- objects new since H -/
theorem LAt.add {Y : List (Addr × HO)} (h : LAt K H0 H d ddx b e L X words kvs) (x : Evl.Ex H H') (l : L ≤ L') (hy : ∀ q ∈ Y, H q.1 = none ∧ H' q.1 = some q.2) : LAt K H0 H' d ddx b e L' (X ++ Y) words kvs := by
  obtain ⟨n1, n2, n3⟩ := h.has
  have g := h.ex x l
  refine ⟨g.ex0, g.d0, g.b0, g.e0, g.at_, g.ben, fun q hq => ?_⟩
  rcases List.mem_append.mp hq with hq | hq
  · exact g.oth q hq
  · obtain ⟨a1, a2⟩ := hy q hq
    exact ⟨a2, fun z => n1 (z ▸ a1), fun z => n2 (z ▸ a1), fun z => n3 (z ▸ a1)⟩
theorem LAt.nd (h : LAt K H0 H d ddx b e L X words kvs) : d ≠ b ∧ d ≠ e := by
  obtain ⟨dx, m, k, f, es, B⟩ := h.ben
  refine ⟨fun z => ?_, fun z => ?_⟩
  · have y := h.at_
    rw [z, B.at_] at y
    have y2 := Option.some.inj y
    injection y2 with _ _ y3
    have y4 := congrArg List.length y3
    simp at y4
  · have y := h.at_
    rw [z, B.ear] at y
    cases y
theorem LAt.step (h : LAt K H0 H d ddx b e L X words kvs) (f : Fr [b, e] H H') (hB : BenchT K H' b e L' words kvs') : LAt K H0 H' d ddx b e L' X words kvs' := by
  obtain ⟨n1, n2⟩ := h.nd
  refine ⟨fun a u ha => f a u (fun z => ?_) (h.ex0 a u ha), h.d0, h.b0, h.e0, f _ _ (by simp [n1, n2]) h.at_, hB, fun q hq => ?_⟩
  · rcases List.mem_cons.mp z with z | z
    · rw [z, h.b0] at ha
      cases ha
    · rw [List.mem_singleton.mp z, h.e0] at ha
      cases ha
  · obtain ⟨a1, a2, a3, a4⟩ := h.oth q hq
    exact ⟨f _ _ (by simp [a3, a4]) a1, a2, a3, a4⟩
theorem LAt.begin {o : V} {b' e' : Addr} (x0 : Evl.Ex H0 H) (d0 : H0 d = none) (hd : H d = some (.ins (He.ga K "Desk") ddx [("own", o)])) (oth : ∀ x ∈ X, H x.1 = some x.2 ∧ x.1 ≠ d)
    (f : Fr [d] H H') (hd' : H' d = some (.ins (He.ga K "Desk") ddx [("own", .ref b')])) (hB : BenchT K H' b' e' L' words' kvs') (hb : H b' = none) (he : H e' = none) : LAt K H0 H' d ddx b' e' L' X words' kvs' := by
  have none0 : ∀ a, H a = none → H0 a = none := fun a ha => by
    cases q : H0 a with
    | none => rfl
    | some u => rw [x0 _ _ q] at ha; cases ha
  refine ⟨fun a u ha => f a u (fun z => ?_) (x0 a u ha), d0, none0 _ hb, none0 _ he, hd', hB, fun q hq => ?_⟩
  · rw [List.mem_singleton.mp z, d0] at ha
    cases ha
  · obtain ⟨a1, a2⟩ := oth q hq
    refine ⟨f _ _ (by simp [a2]) a1, a2, fun z => ?_, fun z => ?_⟩
    · rw [z, hb] at a1; cases a1
    · rw [z, he] at a1; cases a1
end
/-! ### the texts of the law -/
def rows12 : List Str := ["names", "row one", "gone two", "run one 7", "fate two 30", "count one 2", "put one cab", "put two -", "drop two", "undo", "machine 1 ab -", "machine 3 a"]
theorem rows12_ok {k : Nat} (h : k < 12) : (rows12.getD k "").length ≤ 20 ∧ PyData.strOk (rows12.getD k "") = true ∧ PyData.strOk (Txt.upper (rows12.getD k "")) = true := by
  have a : ∀ k : Fin 12, (rows12.getD k.val "").length ≤ 20 ∧ PyData.strOk (rows12.getD k.val "") = true ∧ PyData.strOk (Txt.upper (rows12.getD k.val "")) = true := by decide +kernel
  exact a ⟨k, h⟩
def set3 : List Str := ["machine 2 bc a aaa", "put one aaaab", "put two abcabc"]
theorem set3_0 : rowB (set3.getD 0 "") = true ∧ Txt.startswith (set3.getD 0 "") "machine " = true ∧ (wordsOf (behind (set3.getD 0 ""))).tail.map readW = (["bc", "a", "aaa"] : List Str) := by decide +kernel
theorem set3_r : ∀ i : Fin 3, 1 ≤ i.val → rowB (set3.getD i.val "") = true ∧ Txt.startswith (set3.getD i.val "") "machine " = false ∧ (wordsOf (set3.getD i.val "")).getD 0 "" = "put" ∧ nameB ((wordsOf (set3.getD i.val "")).getD 1 "") = true ∧
    allIn (readW ((wordsOf (set3.getD i.val "")).getD 2 "")) (sg 3) = true ∧ (readW ((wordsOf (set3.getD i.val "")).getD 2 "")).length ≤ 200 := by decide +kernel
theorem set3_len : ∀ i : Fin 3, (set3.getD i.val "").length ≤ 5000 := by decide +kernel
/-- a thing that the desk is told -/
def ThingOk (K : PySem.W.Frag) (X : List (Addr × HO)) (x : V) : Prop := (∃ t, x = .str t ∧ BentOk t) ∨ ∀ H : Hp, (∀ q ∈ X, H q.1 = some q.2) → NonStr K H x
/-- a thing that is no row -/
def BadT (K : PySem.W.Frag) (H : Hp) (x : V) : Prop := NonStr K H x ∨ ∃ t, x = .str t ∧ t.length ≤ 5000 ∧ rowB t = false
theorem say_bad {K : PySem.W.Frag} {H : Hp} {d ddx : Addr} {o x : V} {Q : VK} {E : XK} (hd : H d = some (.ins (He.ga K "Desk") ddx [("own", o)])) (hb : BadT K H x) (he : ∀ H', Evl.Ex H H' → E (.ref (He.ga K "NoRow")) none H') : spSay K [.ref d, x] H Q E := by
  refine ⟨d, ddx, o, x, rfl, hd, ?_⟩
  rcases hb with h | ⟨t, rfl, hl, hr⟩
  · exact .inl ⟨h, he⟩
  · exact .inr ⟨t, rfl, hl, fun _ => he, fun z => by (rw [hr] at z; cases z), fun z => by (rw [hr] at z; cases z)⟩
theorem say_bare {K : PySem.W.Frag} {H : Hp} {d ddx : Addr} {t : Str} {Q : VK} {E : XK} (hd : H d = some (.ins (He.ga K "Desk") ddx [("own", .non)])) (hl : t.length ≤ 5000) (hr : rowB t = true) (hs : Txt.startswith t "machine " = false) (he : ∀ H', Evl.Ex H H' → E (.ref (He.ga K "NoMachine")) none H') : spSay K [.ref d, .str t] H Q E := by
  exact ⟨d, ddx, .non, .str t, rfl, hd, .inr ⟨t, rfl, hl, fun z => by (rw [hr] at z; cases z), fun _ z => by (rw [hs] at z; cases z), fun _ _ => .inl ⟨rfl, he⟩⟩⟩
theorem eqv_list_str (l : List PyData) (x : Str) : PyData.eqv (.list l) (.str x) = false := by simp [PyData.eqv]
theorem eqv_str (a b : Str) : PyData.eqv (.str a) (.str b) = decide (a = b) := by
  rw [PyData.eqv]
  by_cases h : a = b
  · subst h
    simp
  · rw [decide_eq_false h]
    exact beq_eq_false_iff_ne.mpr h
theorem errs4 : ∀ C ∈ (["NoName", "NoSign", "TooMany", "NoDeed"] : List Str), C ∈ errs7 ∧ PyData.strOk (kindW C) = true ∧ decide (kindW C = "row") = false ∧ decide (kindW C = "other") = false := by decide +kernel
end Tg

namespace Tg
open PySem PySem.Spec PyProof.Rows L2
section
variable {P : Program} {w : World} {K : PySem.W.Frag} {mg : Str → Option Value} {base : Heap}
def spLaw (K : PySem.W.Frag) : Sp := fun vs H Q _ => ∃ (a : Addr) (ns : List Int), vs = [.ref a] ∧ SqL K H a (ns.map V.int) ∧ ∀ H', Q (.bl true) H'
theorem k_law (T : Txt w K mg) {fd : FuncData} (F : FunD K "law" "law" (defArgs s_law) (defBody s_law) (defScope s_law) [] [] (He.fAd K ("law", none)) fd) : FnOk P w K mg base CX0 10 (He.fAd K ("law", none)) fd P_law (spLaw K) := by
  have G_Desk_init := k_desk_init (P := P) (base := base) T
  have G_Desk_say := k_say (P := P) (base := base) T
  have G_law_cell_at := k_cell (P := P) (base := base) T
  have G_law_pot := k_pot (P := P) (base := base) T
  have G_law_take := k_take (P := P) (base := base) T
  have G_law_bent := k_bent (P := P) (base := base) T
  have G_law_is_row := k_law_row (P := P) (base := base) T
  have G_law_seen := k_seen (P := P) (base := base) T
  have G_law_desk_told := k_told (P := P) (base := base) T
  refine F.ok sc_law (fun vs H Q E h => ?_) (fun cdv A outer s H vs Q E hr h => ?_)
  · obtain ⟨a, ns, rfl, _⟩ := h
    rfl
  · obtain ⟨a, ns, rfl, hS, q⟩ := h
    have hu64 := hu64_of hr
    refine ⟨_, (pss_cons (ps_set (i := 1) sc_law.nd rfl (by first | exact Or.inl rfl | exact Or.inr rfl) (pe_mk0 T.mk_Desk G_Desk_init (hr.mono (by decide)) rfl T.g_Desk pass0))
      (pss_cons (ps_set (i := 2) sc_law.nd rfl (by first | exact Or.inl rfl | exact Or.inr rfl) (pe_mk0 T.mk_Desk G_Desk_init (hr.mono (by decide)) rfl T.g_Desk pass0))
      (pss_cons (ps_for (L2.passes_of rfl) rfl (pi_list (pe_lst (pa_cons pe_str (pa_cons pe_str (pa_cons pe_str pa_nil))))) (pg_name (i := 3) sc_law.nd rfl (by first | exact Or.inl rfl | exact Or.inr rfl)) (pss_one (ps_expr (pe_mt (pv 1) T.cl_Desk T.m_Desk_say G_Desk_say (hr.mono (by decide)) passL (pa_cons (pv 3) pa_nil)))))
      (pss_cons (ps_for (L2.passes_of rfl) rfl (pi_range1 rfl T.f_range (pa_cons (pe_callB (call_max2 rfl) rfl T.f_max (by decide +kernel) (pa_cons pe_int (pa_cons (pe_callB (call_min2 rfl) rfl T.f_min (by decide +kernel) (pa_cons (pe_callB call_len_seq rfl T.f_len (by decide +kernel) (pa_cons (pv 0) pa_nil)) (pa_cons pe_int pa_nil))) pa_nil))) pa_nil)) (pg_name (i := 4) sc_law.nd rfl (by first | exact Or.inl rfl | exact Or.inr rfl)) (pss_cons (ps_set (i := 5) sc_law.nd rfl (by first | exact Or.inl rfl | exact Or.inr rfl) (pe_fn G_law_pot (hr.mono (by decide)) rfl T.g_law_pot pass0 (pa_cons (pe_fn G_law_cell_at (hr.mono (by decide)) rfl T.g_law_cell_at pass0 (pa_cons (pv 0) (pa_cons (pv 4) pa_nil))) pa_nil)))
      (pss_cons (ps_set (i := 6) sc_law.nd rfl (by first | exact Or.inl rfl | exact Or.inr rfl) (pe_lst (pa_cons pe_str (pa_cons pe_str (pa_cons pe_str (pa_cons pe_str (pa_cons pe_str (pa_cons pe_str (pa_cons pe_str (pa_cons pe_str pa_nil))))))))))
      (pss_cons (ps_set (i := 6) sc_law.nd rfl (by first | exact Or.inl rfl | exact Or.inr rfl) (pe_op op_cat (pv 6) (pe_lst (pa_cons pe_str (pa_cons pe_str (pa_cons pe_str (pa_cons pe_str pa_nil)))))))
      (pss_cons (ps_set (i := 3) sc_law.nd rfl (by first | exact Or.inl rfl | exact Or.inr rfl) (pe_fn G_law_bent (hr.mono (by decide)) rfl T.g_law_bent pass0 (pa_cons (pv 5) (pa_cons (pe_ix ix_list (pv 6) (pe_fn G_law_take (hr.mono (by decide)) rfl T.g_law_take pass0 (pa_cons (pv 5) (pa_cons pe_int pa_nil))) (fun _ _ => rfl)) pa_nil))))
      (pss_cons (ps_set (i := 7) sc_law.nd rfl (by first | exact Or.inl rfl | exact Or.inr rfl) (pe_ix ix_list (pe_lst (pa_cons pe_non (pa_cons pe_int (pa_cons pe_bl (pa_cons (pe_lst (pa_cons (pv 3) pa_nil)) (pa_cons (pe_tup (pa_cons pe_str pa_nil)) (pa_cons pe_dnewK (pa_cons (pe_lst (pa_cons pe_str pa_nil)) pa_nil)))))))) (pe_fn G_law_take (hr.mono (by decide)) rfl T.g_law_take pass0 (pa_cons (pv 5) (pa_cons pe_int pa_nil))) (fun _ _ => rfl)))
      (pss_one (ps_for (L2.passes_of rfl) rfl (pi_list (pe_lst (pa_cons (pv 3) (pa_cons (pv 7) pa_nil)))) (pg_name (i := 8) sc_law.nd rfl (by first | exact Or.inl rfl | exact Or.inr rfl)) (pss_cons (ps_set (i := 9) sc_law.nd rfl (by first | exact Or.inl rfl | exact Or.inr rfl) (pe_or (pe_not (pe_callB call_isi rfl T.f_isinstance (by decide +kernel) (pa_cons (pv 8) (pa_cons (pe_bltn (v := .ty "str") (u := .type "str") rfl T.f_str (by decide +kernel) rfl) pa_nil)))) (pe_one (pe_not (pe_fn G_law_is_row (hr.mono (by decide)) rfl T.g_law_is_row pass0 (pa_cons (pv 8) pa_nil))))))
      (pss_cons (ps_set (i := 10) sc_law.nd rfl (by first | exact Or.inl rfl | exact Or.inr rfl) (pe_fn G_law_seen (hr.mono (by decide)) rfl T.g_law_seen pass0 (pa_cons (pv 1) pa_nil)))
      (pss_cons (ps_set (i := 11) sc_law.nd rfl (by first | exact Or.inl rfl | exact Or.inr rfl) (pe_fn G_law_desk_told (hr.mono (by decide)) rfl T.g_law_desk_told pass0 (pa_cons (pv 1) (pa_cons (pv 8) pa_nil))))
      (pss_cons (ps_if (PW.pt (pw_or (pt_cmpR op_ne (pe_cmpR (op_eqD hu64) (pv 11) pe_str (nomark _)) (pv 9) (nomark _)) (pw_or (pt_cmpR (op_eqD hu64) (pv 11) pe_str (nomark _)) (pw_or1 (PW.pt (pw_and (pt_val (pv 9)) (pw_and1 (pt_cmpR (op_neD hu64) (pe_fn G_law_seen (hr.mono (by decide)) rfl T.g_law_seen pass0 (pa_cons (pv 1) pa_nil)) (pv 10) (nomark _))))))))) (pss_one (ps_ret pe_bl)) pss_nil)
      (pss_one (ps_if (PW.pt (pw_or (pt_val (pv 9)) (pw_or1 (pt_not (pt_val (pe_m1 PySem.F.slot_str_startswith PySem.F.type_str_startswith mt_startswith (pv 8) pe_str)))))) (pss_one (ps_if (pt_cmpR (op_neD hu64) (pe_fn G_law_desk_told (hr.mono (by decide)) rfl T.g_law_desk_told pass0 (pa_cons (pv 2) (pa_cons (pv 8) pa_nil))) (pe_ix ix_list (pe_lst (pa_cons pe_str (pa_cons pe_str pa_nil))) (pe_callTy call_int1 rfl T.f_int (by decide +kernel) (pa_cons (pv 9) pa_nil)) (fun _ _ => rfl)) (nomark _)) (pss_one (ps_ret pe_bl)) pss_nil)) pss_nil))))))))))))))
      (pss_one (ps_ret pe_bl)))))), ?_⟩
    -- desk, bare
    refine fun d dd hd hdd hne => ⟨d, dd, rfl, upd_same, rfl, ?_⟩
    rw [upd_upd]
    have x1 : Evl.Ex H (upd (upd H dd (.own d)) d (.ins (He.ga K "Desk") dd [("own", .non)])) := (Evl.Ex.new hdd).trans (Evl.Ex.new (by rw [upd_ne hne.symm]; exact hd))
    have c1 : upd (upd H dd (.own d)) d (.ins (He.ga K "Desk") dd [("own", .non)]) d = some (.ins (He.ga K "Desk") dd [("own", .non)]) := upd_same
    have hH1 : ∃ H1, H1 = upd (upd H dd (.own d)) d (.ins (He.ga K "Desk") dd [("own", .non)]) := ⟨_, rfl⟩
    obtain ⟨H1, eH1⟩ := hH1
    rw [← eH1] at x1 c1 ⊢
    refine fun bd bdd hbd hbdd hbne => ⟨bd, bdd, rfl, upd_same, rfl, ?_⟩
    rw [upd_upd]
    have x2 : Evl.Ex H1 (upd (upd H1 bdd (.own bd)) bd (.ins (He.ga K "Desk") bdd [("own", .non)])) := (Evl.Ex.new hbdd).trans (Evl.Ex.new (by rw [upd_ne hbne.symm]; exact hbd))
    have c2 : upd (upd H1 bdd (.own bd)) bd (.ins (He.ga K "Desk") bdd [("own", .non)]) bd = some (.ins (He.ga K "Desk") bdd [("own", .non)]) := upd_same
    have hH2 : ∃ H2, H2 = upd (upd H1 bdd (.own bd)) bd (.ins (He.ga K "Desk") bdd [("own", .non)]) := ⟨_, rfl⟩
    obtain ⟨H2, eH2⟩ := hH2
    rw [← eH2] at x2 c2 ⊢
    have dbd : bd ≠ d := fun z => by rw [z, c1] at hbd; cases hbd
    -- the three rows ahead
    refine ⟨size_of (by show 3 ≤ 16000000; decide), fun LT hLT => ?_⟩
    have x3 := Evl.Ex.new (o := .lst (set3.map V.str)) hLT
    have c3 : upd H2 LT (.lst (set3.map V.str)) LT = some (.lst (set3.map V.str)) := upd_same
    have n3d : LT ≠ d := fun z => by
      have y := x2 _ _ c1
      rw [← z, hLT] at y
      cases y
    have hH3 : ∃ H3, H3 = upd H2 LT (.lst (set3.map V.str)) := ⟨_, rfl⟩
    obtain ⟨H3, eH3⟩ := hH3
    rw [← eH3] at x3 c3
    have es3 : upd H2 LT (.lst [.str "machine 2 bc a aaa", .str "put one aaaab", .str "put two abcabc"]) = H3 := eH3.symm
    rw [es3]
    refine ⟨LT, rfl, ⟨_, SqL.of c3⟩, ?_⟩
    refine for_it (walk_list (xs := set3.map V.str)) (fun i σ H' => (∃ v3 : Option V, σ = [some (.ref a), some (.ref d), some (.ref bd), v3, none, none, none, none, none, none, none, none]) ∧
        ((i = 0 ∧ H' = H3) ∨ (1 ≤ i ∧ ∃ b e kvs, LAt K H H' d dd b e (10000 + 2000 * i) [(bd, .ins (He.ga K "Desk") bdd [("own", .non)]), (LT, .lst (set3.map V.str))] ["bc", "a", "aaa"] kvs ∧ kvs.length ≤ i)))
      ⟨⟨none, rfl⟩, .inl ⟨rfl, rfl⟩⟩ (fun i σ H' _ z => ?_) ?_ ?_
    · rcases z.2 with ⟨_, rfl⟩ | ⟨_, b, e, kvs, hA, _⟩
      · exact SqL.of c3
      · exact SqL.of (hA.oth (LT, _) (by simp)).1
    · rintro i x σ Ha Hb hi ⟨⟨v3, rfl⟩, hcase⟩ ⟨rfl, hx⟩
      have hi3 : i < 3 := hi
      have hxw : x = .str (set3.getD i "") := by
        rw [List.getElem?_map, List.getElem?_eq_getElem (show i < set3.length from hi3)] at hx
        rw [← Option.some.inj hx, List.getD_eq_getElem?_getD, List.getElem?_eq_getElem (show i < set3.length from hi3)]
        rfl
      subst hxw
      have hlen := set3_len ⟨i, hi3⟩
      rcases hcase with ⟨rfl, rfl⟩ | ⟨h1, b, e, kvs, hA, hk⟩
      · obtain ⟨r1, r2, r3⟩ := set3_0
        have hd3 : Hb d = some (.ins (He.ga K "Desk") dd [("own", .non)]) := x3 _ _ (x2 _ _ c1)
        refine ⟨_, rfl, d, dd, _, rfl, hd3, rfl, _, rfl, d, dd, .non, _, rfl, hd3, .inr ⟨_, rfl, hlen, fun z => ?_, fun _ _ H' b e words hw fr hd' hB hb he => ?_, fun _ z => ?_⟩⟩
        · rw [r1] at z; cases z
        · rw [r3] at hw
          subst hw
          refine ⟨⟨_, rfl⟩, .inr ⟨by omega, b, e, [], LAt.begin (x1.trans (x2.trans x3)) hd hd3 (fun q hq => ?_) fr hd' (hB _) hb he, Nat.zero_le _⟩⟩
          rcases List.mem_cons.mp hq with rfl | hq
          · exact ⟨x3 _ _ c2, dbd⟩
          · rw [List.mem_singleton.mp hq]
            exact ⟨c3, n3d⟩
        · rw [r2] at z; cases z
      · obtain ⟨r1, r2, r3, r4, r5, r6⟩ := set3_r ⟨i, hi3⟩ h1
        simp only at r1 r2 r3 r4 r5 r6
        refine ⟨_, rfl, d, dd, _, rfl, hA.at_, rfl, _, rfl, d, dd, .ref b, _, rfl, hA.at_, .inr ⟨_, rfl, hlen, fun z => ?_, fun _ z => ?_, fun _ _ => .inr ⟨b, e, _, _, kvs, rfl, hA.ben, by omega, fun s H' kvs' fr hB' hs hq hput => ?_, fun C hC H' ex hq hput => ?_⟩⟩⟩
        · rw [r1] at z; cases z
        · rw [r2] at z; cases z
        · refine ⟨⟨_, rfl⟩, .inr ⟨by omega, b, e, kvs', ?_, by have := hput r3; omega⟩⟩
          have z := hA.step fr hB'
          have e1 : 10000 + 2000 * i + 2000 = 10000 + 2000 * (i + 1) := by omega
          rw [e1] at z
          exact z
        · rcases hput r3 with h | h | h | h
          · rw [r4] at h; cases h
          · have h : allIn (readW ((wordsOf (set3.getD i "")).getD 2 "")) (sg 3) = false := h
            rw [r5] at h; cases h
          · omega
          · omega
    · rintro σ Hs ⟨⟨v3, rfl⟩, hcase⟩
      rcases hcase with ⟨h3, _⟩ | ⟨_, b0, e0, kvs0, hA0, _⟩
      · exact absurd h3 (by show ¬ 3 = 0; omega)
      have hA0 : LAt K H Hs d dd b0 e0 16000 [(bd, .ins (He.ga K "Desk") bdd [("own", .non)])] ["bc", "a", "aaa"] kvs0 := LAt.sub hA0 (fun q hq => List.mem_cons.mpr (.inl (List.mem_singleton.mp hq)))
      -- for k in range(..)
      have exl : ∀ {H'}, Evl.Ex H H' → SqL K H' a (ns.map V.int) := fun x => Evl.ex_l x hS
      refine ⟨_, rfl, a, _, rfl, .inl (exl hA0.ex0), _, _, rfl, _, _, rfl, _, rfl, ?_⟩
      generalize hN : (if (if (30 : Int) < (((ns.map V.int).length : Nat) : Int) then (30 : Int) else (((ns.map V.int).length : Nat) : Int)) > 1 then (if (30 : Int) < (((ns.map V.int).length : Nat) : Int) then (30 : Int) else (((ns.map V.int).length : Nat) : Int)) else 1) = N
      have N1 : 1 ≤ N ∧ N ≤ 30 := by
        rw [← hN]
        split <;> (try split) <;> omega
      obtain ⟨n, rfl⟩ := Int.eq_ofNat_of_zero_le (show 0 ≤ N by omega)
      refine ⟨by omega, by omega, ?_⟩
      rw [show ((n : Int)).toNat = n by simp]
      refine for_it walk_range (fun i σ H' => (∃ v3 v4 v5 v6 v7 v8 v9 v10 v11 : Option V, σ = [some (.ref a), some (.ref d), some (.ref bd), v3, v4, v5, v6, v7, v8, v9, v10, v11]) ∧ ∃ b e words kvs, LAt K H H' d dd b e (16000 + 4000 * i) [(bd, .ins (He.ga K "Desk") bdd [("own", .non)])] words kvs)
        ⟨⟨v3, none, none, none, none, none, none, none, none, rfl⟩, b0, e0, _, kvs0, hA0⟩ (fun _ _ _ _ _ => trivial) ?_ ?_
      · rintro i x σ Ha Hb hi ⟨⟨v3, v4, v5, v6, v7, v8, v9, v10, v11, rfl⟩, b, e, words, kvs, hA⟩ ⟨rfl, rfl⟩
        show gName 4 (V.int (0 + (i : Int))) _ _ _
        rw [show (0 : Int) + (i : Int) = (i : Int) by omega]
        have hb0 := Hb
        -- pot
        refine ⟨_, rfl, _, rfl, a, ns, i, rfl, exl hA.ex0, fun c => ⟨c, rfl, fun p v hp => ?_⟩⟩
        have y1 := Evl.Ex.new (o := .lst [.int v]) hp
        have g1 : upd Hb p (.lst [.int v]) p = some (.lst [.int v]) := upd_same
        have hG1 : ∃ G1, G1 = upd Hb p (.lst [.int v]) := ⟨_, rfl⟩
        obtain ⟨G1, eG1⟩ := hG1
        rw [← eG1] at y1 g1 ⊢
        -- rows
        refine ⟨size_of (by show 8 ≤ 16000000; decide), fun r1 hr1 => ?_⟩
        have y2 := Evl.Ex.new (o := .lst ((rows12.take 8).map V.str)) hr1
        have k1 : upd G1 r1 (.lst ((rows12.take 8).map V.str)) r1 = some (.lst ((rows12.take 8).map V.str)) := upd_same
        have hG2 : ∃ G2, G2 = upd G1 r1 (.lst ((rows12.take 8).map V.str)) := ⟨_, rfl⟩
        obtain ⟨G2, eG2⟩ := hG2
        rw [← eG2] at y2 k1
        have z2 : upd G1 r1 (.lst [.str "names", .str "row one", .str "gone two", .str "run one 7", .str "fate two 30", .str "count one 2", .str "put one cab", .str "put two -"]) = G2 := eG2.symm
        rw [z2]
        refine ⟨_, rfl, size_of (by show 4 ≤ 16000000; decide), fun r2 hr2 => ?_⟩
        have y3 := Evl.Ex.new (o := .lst ((rows12.drop 8).map V.str)) hr2
        have k2 : upd G2 r2 (.lst ((rows12.drop 8).map V.str)) r2 = some (.lst ((rows12.drop 8).map V.str)) := upd_same
        have k1b := y3 _ _ k1
        have hG3 : ∃ G3, G3 = upd G2 r2 (.lst ((rows12.drop 8).map V.str)) := ⟨_, rfl⟩
        obtain ⟨G3, eG3⟩ := hG3
        rw [← eG3] at y3 k2 k1b
        have z3 : upd G2 r2 (.lst [.str "drop two", .str "undo", .str "machine 1 ab -", .str "machine 3 a"]) = G3 := eG3.symm
        rw [z3]
        refine ⟨r1, r2, _, _, rfl, rfl, k1b, k2, size_of (by show 12 ≤ 16000000; decide), fun r3 hr3 => ?_⟩
        have y4 := Evl.Ex.new (o := .lst (rows12.map V.str)) hr3
        have k3 : upd G3 r3 (.lst (rows12.map V.str)) r3 = some (.lst (rows12.map V.str)) := upd_same
        have hG4 : ∃ G4, G4 = upd G3 r3 (.lst (rows12.map V.str)) := ⟨_, rfl⟩
        obtain ⟨G4, eG4⟩ := hG4
        rw [← eG4] at y4 k3
        have z4 : upd G3 r3 (.lst ((rows12.take 8).map V.str ++ (rows12.drop 8).map V.str)) = G4 := by rw [← List.map_append, List.take_append_drop]; exact eG4.symm
        rw [z4]
        have g4 := y4 _ _ (y3 _ _ (y2 _ _ g1))
        have nr3 : p ≠ r3 := fun z => by
          have w := y3 _ _ (y2 _ _ g1)
          rw [z, hr3] at w
          cases w
        have hpb : Hb p = none := hp
        have f4 : Fr [p] Hb G4 := Fr.of_ex (y1.trans (y2.trans (y3.trans y4)))
        -- text
        refine ⟨_, rfl, _, rfl, _, rfl, p, 12, v, rfl, g4, by decide, by decide, fun k5 v5 hk5 => ?_⟩
        have hk5n : k5 < 12 := by omega
        have f5 := f4.put (p := p) (o := .lst [.int v5]) (by simp)
        have g5 : upd G4 p (.lst [.int v5]) p = some (.lst [.int v5]) := upd_same
        have k5c : upd G4 p (.lst [.int v5]) r3 = some (.lst (rows12.map V.str)) := by rw [upd_ne nr3.symm]; exact k3
        have hG5 : ∃ G5, G5 = upd G4 p (.lst [.int v5]) := ⟨_, rfl⟩
        obtain ⟨G5, eG5⟩ := hG5
        rw [← eG5] at f5 g5 k5c ⊢
        obtain ⟨t1, t2, t3⟩ := rows12_ok hk5n
        refine ⟨r3, _, (k5 : Int), .str (rows12.getD k5 ""), rfl, rfl, SqL.of k5c, get_str (K := K) (l := rows12) hk5n, p, v5, _, rfl, g5, t1, t2, t3, fun G6 v6p t f6 g6 ht => ?_⟩
        have f6b : Fr [p] Hb G6 := fun a u n h => f6 a u n (f5 a u n h)
        -- odd
        refine ⟨_, rfl, size_of (by show 1 ≤ 16000000; decide), fun o1 ho1 => ?_⟩
        have y7 := Evl.Ex.new (o := .lst [.str t]) ho1
        have m1 : upd G6 o1 (.lst [.str t]) o1 = some (.lst [.str t]) := upd_same
        have g7 := y7 _ _ g6
        have np1 : p ≠ o1 := fun z => by rw [z, ho1] at g6; cases g6
        have hG7 : ∃ G7, G7 = upd G6 o1 (.lst [.str t]) := ⟨_, rfl⟩
        obtain ⟨G7, eG7⟩ := hG7
        rw [← eG7] at y7 m1 g7 ⊢
        refine ⟨size_of (by show 1 ≤ 16000000; decide), fun o2 ho2 => ?_⟩
        have y8 := Evl.Ex.new (o := .tup [.str "names"]) ho2
        have m2 : upd G7 o2 (.tup [.str "names"]) o2 = some (.tup [.str "names"]) := upd_same
        have g8 := y8 _ _ g7
        have np2 : p ≠ o2 := fun z => by rw [z, ho2] at g7; cases g7
        have hG8 : ∃ G8, G8 = upd G7 o2 (.tup [.str "names"]) := ⟨_, rfl⟩
        obtain ⟨G8, eG8⟩ := hG8
        rw [← eG8] at y8 m2 g8 ⊢
        refine fun o3 ho3 => ?_
        have y9 := Evl.Ex.new (o := .dK []) ho3
        have m3 : upd G8 o3 (.dK []) o3 = some (.dK []) := upd_same
        have g9 := y9 _ _ g8
        have np3 : p ≠ o3 := fun z => by
          have ho3 : G8 o3 = none := ho3
          rw [z, ho3] at g8
          cases g8
        have hG9 : ∃ G9, G9 = upd G8 o3 (.dK []) := ⟨_, rfl⟩
        obtain ⟨G9, eG9⟩ := hG9
        rw [← eG9] at y9 m3 g9 ⊢
        refine ⟨size_of (by show 1 ≤ 16000000; decide), fun o4 ho4 => ?_⟩
        have y10 := Evl.Ex.new (o := .lst [.str "names"]) ho4
        have m4 : upd G9 o4 (.lst [.str "names"]) o4 = some (.lst [.str "names"]) := upd_same
        have g10 := y10 _ _ g9
        have np4 : p ≠ o4 := fun z => by rw [z, ho4] at g9; cases g9
        have hG10 : ∃ G10, G10 = upd G9 o4 (.lst [.str "names"]) := ⟨_, rfl⟩
        obtain ⟨G10, eG10⟩ := hG10
        rw [← eG10] at y10 m4 g10 ⊢
        refine ⟨size_of (by show 7 ≤ 16000000; decide), fun o5 ho5 => ?_⟩
        have y11 := Evl.Ex.new (o := .lst [.non, .int 3, .bl true, .ref o1, .ref o2, .ref o3, .ref o4]) ho5
        have m5 : upd G10 o5 (.lst [.non, .int 3, .bl true, .ref o1, .ref o2, .ref o3, .ref o4]) o5 = some (.lst [.non, .int 3, .bl true, .ref o1, .ref o2, .ref o3, .ref o4]) := upd_same
        have g11 := y11 _ _ g10
        have np5 : p ≠ o5 := fun z => by rw [z, ho5] at g10; cases g10
        have hG11 : ∃ G11, G11 = upd G10 o5 (.lst [.non, .int 3, .bl true, .ref o1, .ref o2, .ref o3, .ref o4]) := ⟨_, rfl⟩
        obtain ⟨G11, eG11⟩ := hG11
        rw [← eG11] at y11 m5 g11
        have z11 : upd G10 o5 (.lst [.non, .int 3, .bl true, .ref o1, .ref o2, .ref o3, .ref o4]) = G11 := eG11.symm
        refine ⟨_, rfl, p, 7, v6p, rfl, by rw [z11]; exact g11, by decide, by decide, fun k7 v7 hk7 => ?_⟩
        rw [z11]
        have hk7n : k7 < 7 := by omega
        have f11 : Fr [p] Hb G11 := f6b.trans_ex (y7.trans (y8.trans (y9.trans (y10.trans y11))))
        have f12 := f11.put (p := p) (o := .lst [.int v7]) (by simp)
        have g12 : upd G11 p (.lst [.int v7]) p = some (.lst [.int v7]) := upd_same
        have mm : ∀ o u, p ≠ o → G11 o = some u → upd G11 p (.lst [.int v7]) o = some u := fun o u n h => by rw [upd_ne n.symm]; exact h
        have m5 := mm o5 _ np5 m5
        have m4 := mm o4 _ np4 (y11 _ _ m4)
        have m3 := mm o3 _ np3 (y11 _ _ (y10 _ _ m3))
        have m2 := mm o2 _ np2 (y11 _ _ (y10 _ _ (y9 _ _ m2)))
        have m1 := mm o1 _ np1 (y11 _ _ (y10 _ _ (y9 _ _ (y8 _ _ m1))))
        have hG12 : ∃ G12, G12 = upd G11 p (.lst [.int v7]) := ⟨_, rfl⟩
        obtain ⟨G12, eG12⟩ := hG12
        rw [← eG12] at f12 g12 m1 m2 m3 m4 m5 ⊢
        have hit : ∃ it, ([.non, .int 3, .bl true, .ref o1, .ref o2, .ref o3, .ref o4] : List V)[k7]? = some it := ⟨_, List.getElem?_eq_getElem (show k7 < 7 from hk7n)⟩
        obtain ⟨it, hit⟩ := hit
        refine ⟨o5, _, (k7 : Int), it, rfl, rfl, SqL.of m5, atI_nat hit, ?_⟩
        -- for thing in [text, odd]
        refine ⟨_, rfl, _, rfl, size_of (by show 2 ≤ 16000000; decide), fun LL hLL => ?_⟩
        have y13 := Evl.Ex.new (o := .lst [.str t, it]) hLL
        have m6 : upd G12 LL (.lst [.str t, it]) LL = some (.lst [.str t, it]) := upd_same
        have hG13 : ∃ G13, G13 = upd G12 LL (.lst [.str t, it]) := ⟨_, rfl⟩
        obtain ⟨G13, eG13⟩ := hG13
        rw [← eG13] at y13 m6 ⊢
        have exb : Evl.Ex Hb G12 := fun a u h => f12 a u (fun z => by
          rw [List.mem_singleton.mp z] at h
          rw [hpb] at h
          cases h) h
        have nob : ∀ G o, Fr [p] Hb G → G p ≠ none → G o = none → Hb o = none := fun G o f h n => f.none (fun a ha => by rw [List.mem_singleton.mp ha]; exact h) n
        have hX := hA.add (Y := [(LL, .lst [.str t, it]), (o1, .lst [.str t]), (o2, .tup [.str "names"]), (o3, .dK []), (o4, .lst [.str "names"])]) (exb.trans y13) (Nat.le_refl _) (fun q hq => by
          rcases List.mem_cons.mp hq with rfl | hq
          · exact ⟨nob G12 LL f12 (by rw [g12]; simp) hLL, m6⟩
          rcases List.mem_cons.mp hq with rfl | hq
          · exact ⟨nob G6 o1 f6b (by rw [g6]; simp) ho1, y13 _ _ m1⟩
          rcases List.mem_cons.mp hq with rfl | hq
          · exact ⟨nob G7 o2 (f6b.trans_ex y7) (by rw [g7]; simp) ho2, y13 _ _ m2⟩
          rcases List.mem_cons.mp hq with rfl | hq
          · exact ⟨nob G8 o3 (f6b.trans_ex (y7.trans y8)) (by rw [g8]; simp) ho3, y13 _ _ m3⟩
          · rw [List.mem_singleton.mp hq]
            exact ⟨nob G9 o4 (f6b.trans_ex (y7.trans (y8.trans y9))) (by rw [g9]; simp) ho4, y13 _ _ m4⟩)
        have hX1 : ∃ X1 : List (Addr × HO), X1 = [(bd, .ins (He.ga K "Desk") bdd [("own", .non)])] ++ [(LL, .lst [.str t, it]), (o1, .lst [.str t]), (o2, .tup [.str "names"]), (o3, .dK []), (o4, .lst [.str "names"])] := ⟨_, rfl⟩
        obtain ⟨X1, eX1⟩ := hX1
        rw [← eX1] at hX
        have hsub : ∀ q ∈ ([(bd, .ins (He.ga K "Desk") bdd [("own", .non)])] : List (Addr × HO)), q ∈ X1 := fun q hq => by rw [eX1]; exact List.mem_append_left _ hq
        have hbdm : (bd, HO.ins (He.ga K "Desk") bdd [("own", .non)]) ∈ X1 := hsub _ (List.mem_singleton.mpr rfl)
        have hLLm : (LL, HO.lst [.str t, it]) ∈ X1 := by rw [eX1]; simp
        have hthing : ∀ x ∈ [V.str t, it], ThingOk K X1 x := fun x hx => by
          rcases List.mem_cons.mp hx with rfl | hx
          · exact .inl ⟨t, rfl, ht⟩
          · rw [List.mem_singleton.mp hx]
            refine .inr fun Hz hz => ?_
            have w1 := hz (o1, .lst [.str t]) (by rw [eX1]; simp)
            have w2 := hz (o2, .tup [.str "names"]) (by rw [eX1]; simp)
            have w3 := hz (o3, .dK []) (by rw [eX1]; simp)
            have w4 := hz (o4, .lst [.str "names"]) (by rw [eX1]; simp)
            have hm := List.mem_of_getElem? hit
            simp only [List.mem_cons, List.not_mem_nil, or_false] at hm
            rcases hm with rfl | rfl | rfl | rfl | rfl | rfl | rfl
            · exact ⟨"NoneType", .base .non, by decide +kernel⟩
            · exact ⟨"int", .base (.int 3), by decide +kernel⟩
            · exact ⟨"bool", .base (.bl true), by decide +kernel⟩
            · exact ⟨"list", .base (.lst w1), by decide +kernel⟩
            · exact ⟨"tuple", .base (.tup w2), by decide +kernel⟩
            · exact ⟨"dict", .base (.dK w3), by decide +kernel⟩
            · exact ⟨"list", .base (.lst w4), by decide +kernel⟩
        refine ⟨LL, rfl, ⟨_, SqL.of m6⟩, ?_⟩
        refine for_it (walk_list (xs := [.str t, it])) (fun j σ H' => (∃ v8 v9 v10 v11 : Option V, σ = [some (.ref a), some (.ref d), some (.ref bd), some (.str t), some (.int (i : Int)), some (.ref p), some (.ref r3), some it, v8, v9, v10, v11]) ∧ ∃ b e words kvs, LAt K H H' d dd b e (16000 + 4000 * i + 2000 * j) X1 words kvs)
          ⟨⟨v8, v9, v10, v11, rfl⟩, b, e, words, kvs, hX⟩ (fun j σ H' _ z => by obtain ⟨_, b, e, words, kvs, hB⟩ := z; exact SqL.of (hB.oth _ hLLm).1) ?_ ?_
        · rintro j x σ Ia Ib hj ⟨⟨w8, w9, w10, w11, rfl⟩, b, e, words, kvs, hB⟩ ⟨rfl, hx⟩
          have hj2 : j < 2 := hj
          have hxo := hthing x (List.mem_of_getElem? hx)
          rcases hxo with ⟨t1, rfl, ht1⟩ | hns
          · have ht5 : t1.length ≤ 5000 := Nat.le_trans ht1.1 (by omega)
            refine ⟨_, rfl, _, _, _, _, true, rfl, .ty _, .base (.str t1), kit_ty (by decide +kernel), true, rfl, _, rfl, iteF ?_⟩
            refine ⟨_, rfl, t1, rfl, ht5, ht1.2, fun I1 x1 => ⟨_, rfl, ?_⟩⟩
            cases hrow : rowB t1 with
            | false =>
              have bad : ∀ Hz : Hp, (∀ q ∈ X1, Hz q.1 = some q.2) → BadT K Hz (.str t1) := fun Hz _ => .inr ⟨t1, rfl, ht5, hrow⟩
              -- ahead
              have hB1 := hB.ex x1 (Nat.le_refl _)
              refine ⟨_, rfl, d, dd, b, e, _, words, kvs, rfl, hB1.at_, hB1.ben, by omega, fun I2 r l x2 hr2 hl2 => ?_⟩
              have hB2 := hB1.ex x2 (Nat.le_refl _)
              -- told
              refine ⟨_, rfl, _, rfl, d, dd, .ref b, _, rfl, hB2.at_, say_bad hB2.at_ (bad I2 fun q hq => (hB2.oth q hq).1) (fun I3 x3 => ⟨"NoRow", by simp [errs7], rfl, rfl, fun I4 x4 => ?_⟩)⟩
              rw [show kindW "NoRow" = "row" by decide +kernel]
              have x24 := x3.trans x4
              have hB4 := hB2.ex x24 (Nat.le_refl _)
              refine ⟨_, rfl, .str "row", .str "row", .str _, .str _, by decide +kernel, by decide +kernel, _, rfl, rfl, _, rfl, ?_⟩
              refine ite2 (fun z => absurd z (by decide +kernel)) (fun _ => ?_)
              refine ⟨_, rfl, .str "row", .str "other", .str _, .str _, by decide +kernel, by decide +kernel, _, rfl, ?_⟩
              refine ite2 (fun z => absurd z (by decide +kernel)) (fun _ => ?_)
              refine ⟨_, rfl, true, rfl, iteT ?_⟩
              refine ⟨_, rfl, d, dd, b, e, _, words, kvs, rfl, hB4.at_, hB4.ben, by omega, fun I5 r5 l5 x5 hr5 hl5 => ?_⟩
              obtain ⟨dxB, mB, kB, fB, esB, BB⟩ := hB1.ben
              have hl5b : SeenL I1 I5 kvs l5 := ⟨hl5.1, fun j v D h => ⟨(hl5.2 j v D h).1, by
                rcases (hl5.2 j v D h).2 with ⟨s, a1, a2⟩ | h2
                · exact .inl ⟨s, a1.back BB.kept (x2.trans x24), a2⟩
                · exact .inr h2⟩⟩
              have hone := SeenL.one hl2 hl5b
              have tv2 := hl2.tv
              have tv5 := hl5.tv
              refine ⟨_, rfl, .list (l5.map (·.2)), .list (l.map (·.2)), .lst (SqL.of hr5) (dpAll_pairs tv5), .lst (SqL.of ((x24.trans x5) _ _ hr2)) (dpAll_pairs fun q hq => (tv2 q hq).ex (x24.trans x5)), (shaped_list fun D hD => ?_).1, (shaped_list fun D hD => ?_).1, _, rfl, ?_⟩
              · obtain ⟨q, hq, rfl⟩ := List.mem_map.mp hD
                exact (tv5 q hq).lay
              · obtain ⟨q, hq, rfl⟩ := List.mem_map.mp hD
                exact (tv2 q hq).lay
              rw [hone, SeqAt.eqv_refl _ (shaped_list fun D hD => by
                obtain ⟨q, hq, rfl⟩ := List.mem_map.mp hD
                exact (tv5 q hq).lay).2]
              refine ite2 (fun z => absurd z (by decide)) (fun _ => ?_)
              have hB5 := hB4.ex x5 (Nat.le_refl _)
              -- bare
              refine ⟨_, rfl, true, rfl, iteT ?_⟩
              refine ⟨_, rfl, _, rfl, bd, bdd, .non, _, rfl, (hB5.oth _ hbdm).1, say_bad (hB5.oth _ hbdm).1 (bad I5 fun q hq => (hB5.oth q hq).1) (fun I6 x6 => ⟨"NoRow", by simp [errs7], rfl, rfl, fun I7 x7 => ?_⟩)⟩
              rw [show kindW "NoRow" = "row" by decide +kernel]
              refine ⟨size_of (by show 2 ≤ 16000000; decide), fun w1 hw1 => ⟨_, rfl, .inr ⟨true, rfl, w1, _, ((1 : Nat) : Int), .str "row", rfl, rfl, SqL.of upd_same, atI_nat rfl, .str "row", .str "row", .str _, .str _, by decide +kernel, by decide +kernel, _, rfl, ?_⟩⟩⟩
              refine ite2 (fun z => absurd z (by decide +kernel)) (fun _ => ?_)
              refine ⟨⟨_, _, _, _, rfl⟩, b, e, words, kvs, hB5.ex (x6.trans (x7.trans (Evl.Ex.new hw1))) (by omega)⟩
            | true =>
              have hB1 := hB.ex x1 (Nat.le_refl _)
              refine ⟨_, rfl, d, dd, b, e, _, words, kvs, rfl, hB1.at_, hB1.ben, by omega, fun I2 r l x2 hr2 hl2 => ?_⟩
              have hB2 := hB1.ex x2 (Nat.le_refl _)
              refine ⟨_, rfl, _, rfl, d, dd, .ref b, _, rfl, hB2.at_, ?_⟩
              refine ⟨d, dd, .ref b, .str t1, rfl, hB2.at_, .inr ⟨t1, rfl, ht5, fun z => ?_, fun _ hst I3 b' e' words' hw' fr hd' hben hb' he' => ?_, fun _ hst => .inr ⟨b, e, _, words, kvs, rfl, hB2.ben, by omega, fun s I3 kvs' fr hben hs hq hput => ?_, fun C hC I3 x3 hq hput => ?_⟩⟩⟩
              · rw [hrow] at z; cases z
              · intro p3 hp3
                have g3 := (LAt.begin hB2.ex0 hB2.d0 hB2.at_ (fun q hq => ⟨(hB2.oth q hq).1, (hB2.oth q hq).2.1⟩) fr hd' (hben (16000 + 4000 * i + 2000 * j)) hb' he').ex (Evl.Ex.new (o := .lst [.str "ok"]) hp3) (show 16000 + 4000 * i + 2000 * j ≤ 16000 + 4000 * i + 2000 * (j + 1) by omega)
                have tv : TV (upd I3 p3 (.lst [.str "ok"])) (.ref p3) (.list [.str "ok"]) := .inr ⟨p3, "ok", by decide +kernel, rfl, upd_same, rfl⟩
                have n1 := eqv_list_str [.str "ok"] "row"
                have n2 := eqv_list_str [.str "ok"] "other"
                refine ⟨_, rfl, _, .str "row", tv.dp, .str _, tv.shaped, by decide +kernel, _, rfl, rfl, _, rfl, ?_⟩
                rw [n1]
                refine ite2 (fun z => absurd z (by decide)) (fun _ => ?_)
                refine ⟨_, rfl, _, .str "other", tv.dp, .str _, tv.shaped, by decide +kernel, _, rfl, ?_⟩
                rw [n2]
                refine ite2 (fun z => absurd z (by decide)) (fun _ => ?_)
                refine ⟨_, rfl, false, rfl, iteF ?_⟩
                refine ⟨_, rfl, false, rfl, iteF ?_⟩
                refine ⟨_, rfl, ⟨_, rfl⟩, t1, "machine", rfl, rfl, _, rfl, ?_⟩
                refine ite2 (fun hs => ?_) (fun hs => ?_)
                · have hs : Txt.startswith t1 "machine " = false := by
                    cases z : Txt.startswith t1 "machine " with
                    | false => rfl
                    | true => rw [starts_short z] at hs; cases hs
                  refine ⟨_, rfl, _, rfl, bd, bdd, .non, _, rfl, (g3.oth _ hbdm).1, say_bare (g3.oth _ hbdm).1 ht5 hrow hs (fun I6 x6 => ⟨"NoMachine", by simp [errs7], rfl, rfl, fun I7 x7 => ?_⟩)⟩
                  rw [show kindW "NoMachine" = "machine" by decide +kernel]
                  refine ⟨size_of (by show 2 ≤ 16000000; decide), fun w1 hw1 => ⟨_, rfl, .inr ⟨false, rfl, w1, _, ((0 : Nat) : Int), .str "machine", rfl, rfl, SqL.of upd_same, atI_nat rfl, .str "machine", .str "machine", .str _, .str _, by decide +kernel, by decide +kernel, _, rfl, ?_⟩⟩⟩
                  refine ite2 (fun z => absurd z (by decide +kernel)) (fun _ => ?_)
                  exact ⟨⟨_, _, _, _, rfl⟩, _, _, _, _, g3.ex (x6.trans (x7.trans (Evl.Ex.new hw1))) (by omega)⟩
                · exact ⟨⟨_, _, _, _, rfl⟩, _, _, _, _, g3.ex (Evl.Ex.refl _) (by omega)⟩
              · intro p3 hp3
                have g3 := (hB2.step fr hben).ex (Evl.Ex.new (o := .lst [.str s]) hp3) (show 16000 + 4000 * i + 2000 * j + 2000 ≤ 16000 + 4000 * i + 2000 * (j + 1) by omega)
                have tv : TV (upd I3 p3 (.lst [.str s])) (.ref p3) (.list [.str s]) := .inr ⟨p3, s, hs.2, rfl, upd_same, rfl⟩
                have n1 := eqv_list_str [.str s] "row"
                have n2 := eqv_list_str [.str s] "other"
                refine ⟨_, rfl, _, .str "row", tv.dp, .str _, tv.shaped, by decide +kernel, _, rfl, rfl, _, rfl, ?_⟩
                rw [n1]
                refine ite2 (fun z => absurd z (by decide)) (fun _ => ?_)
                refine ⟨_, rfl, _, .str "other", tv.dp, .str _, tv.shaped, by decide +kernel, _, rfl, ?_⟩
                rw [n2]
                refine ite2 (fun z => absurd z (by decide)) (fun _ => ?_)
                refine ⟨_, rfl, false, rfl, iteF ?_⟩
                refine ⟨_, rfl, false, rfl, iteF ?_⟩
                refine ⟨_, rfl, ⟨_, rfl⟩, t1, "machine", rfl, rfl, _, rfl, ?_⟩
                refine ite2 (fun hs => ?_) (fun hs => ?_)
                · have hs : Txt.startswith t1 "machine " = false := by
                    cases z : Txt.startswith t1 "machine " with
                    | false => rfl
                    | true => rw [starts_short z] at hs; cases hs
                  refine ⟨_, rfl, _, rfl, bd, bdd, .non, _, rfl, (g3.oth _ hbdm).1, say_bare (g3.oth _ hbdm).1 ht5 hrow hs (fun I6 x6 => ⟨"NoMachine", by simp [errs7], rfl, rfl, fun I7 x7 => ?_⟩)⟩
                  rw [show kindW "NoMachine" = "machine" by decide +kernel]
                  refine ⟨size_of (by show 2 ≤ 16000000; decide), fun w1 hw1 => ⟨_, rfl, .inr ⟨false, rfl, w1, _, ((0 : Nat) : Int), .str "machine", rfl, rfl, SqL.of upd_same, atI_nat rfl, .str "machine", .str "machine", .str _, .str _, by decide +kernel, by decide +kernel, _, rfl, ?_⟩⟩⟩
                  refine ite2 (fun z => absurd z (by decide +kernel)) (fun _ => ?_)
                  exact ⟨⟨_, _, _, _, rfl⟩, _, _, _, _, g3.ex (x6.trans (x7.trans (Evl.Ex.new hw1))) (by omega)⟩
                · exact ⟨⟨_, _, _, _, rfl⟩, _, _, _, _, g3.ex (Evl.Ex.refl _) (by omega)⟩
              · obtain ⟨c1, c2, c3, c4⟩ := errs4 C hC
                refine ⟨C, c1, rfl, rfl, fun I4 x4 => ?_⟩
                have g3 := hB2.ex (x3.trans x4) (show 16000 + 4000 * i + 2000 * j ≤ 16000 + 4000 * i + 2000 * (j + 1) by omega)
                have tv : TV I4 (.str (kindW C)) (.str (kindW C)) := .inl ⟨_, c2, rfl, rfl⟩
                have n1 : PyData.eqv (.str (kindW C)) (.str "row") = false := by rw [eqv_str]; exact c3
                have n2 : PyData.eqv (.str (kindW C)) (.str "other") = false := by rw [eqv_str]; exact c4
                refine ⟨_, rfl, _, .str "row", tv.dp, .str _, tv.shaped, by decide +kernel, _, rfl, rfl, _, rfl, ?_⟩
                rw [n1]
                refine ite2 (fun z => absurd z (by decide)) (fun _ => ?_)
                refine ⟨_, rfl, _, .str "other", tv.dp, .str _, tv.shaped, by decide +kernel, _, rfl, ?_⟩
                rw [n2]
                refine ite2 (fun z => absurd z (by decide)) (fun _ => ?_)
                refine ⟨_, rfl, false, rfl, iteF ?_⟩
                refine ⟨_, rfl, false, rfl, iteF ?_⟩
                refine ⟨_, rfl, ⟨_, rfl⟩, t1, "machine", rfl, rfl, _, rfl, ?_⟩
                refine ite2 (fun hs => ?_) (fun hs => ?_)
                · have hs : Txt.startswith t1 "machine " = false := by
                    cases z : Txt.startswith t1 "machine " with
                    | false => rfl
                    | true => rw [starts_short z] at hs; cases hs
                  refine ⟨_, rfl, _, rfl, bd, bdd, .non, _, rfl, (g3.oth _ hbdm).1, say_bare (g3.oth _ hbdm).1 ht5 hrow hs (fun I6 x6 => ⟨"NoMachine", by simp [errs7], rfl, rfl, fun I7 x7 => ?_⟩)⟩
                  rw [show kindW "NoMachine" = "machine" by decide +kernel]
                  refine ⟨size_of (by show 2 ≤ 16000000; decide), fun w1 hw1 => ⟨_, rfl, .inr ⟨false, rfl, w1, _, ((0 : Nat) : Int), .str "machine", rfl, rfl, SqL.of upd_same, atI_nat rfl, .str "machine", .str "machine", .str _, .str _, by decide +kernel, by decide +kernel, _, rfl, ?_⟩⟩⟩
                  refine ite2 (fun z => absurd z (by decide +kernel)) (fun _ => ?_)
                  exact ⟨⟨_, _, _, _, rfl⟩, _, _, _, _, g3.ex (x6.trans (x7.trans (Evl.Ex.new hw1))) (by omega)⟩
                · exact ⟨⟨_, _, _, _, rfl⟩, _, _, _, _, g3.ex (Evl.Ex.refl _) (by omega)⟩
          · obtain ⟨ta, tyx, hk⟩ := hns Ib (fun q hq => (hB.oth q hq).1)
            have bad : ∀ Hz : Hp, (∀ q ∈ X1, Hz q.1 = some q.2) → BadT K Hz x := fun Hz hz => .inl (hns Hz hz)
            refine ⟨_, rfl, _, _, _, _, false, rfl, .ty _, tyx, kit_ty hk, false, rfl, _, rfl, iteT ?_⟩
            have x1 := Evl.Ex.refl Ib
            obtain ⟨I1, eI1⟩ : ∃ I1, I1 = Ib := ⟨_, rfl⟩
            rw [← eI1] at x1 hB ⊢
            -- ahead
            have hB1 := hB.ex x1 (Nat.le_refl _)
            refine ⟨_, rfl, d, dd, b, e, _, words, kvs, rfl, hB1.at_, hB1.ben, by omega, fun I2 r l x2 hr2 hl2 => ?_⟩
            have hB2 := hB1.ex x2 (Nat.le_refl _)
            -- told
            refine ⟨_, rfl, _, rfl, d, dd, .ref b, _, rfl, hB2.at_, say_bad hB2.at_ (bad I2 fun q hq => (hB2.oth q hq).1) (fun I3 x3 => ⟨"NoRow", by simp [errs7], rfl, rfl, fun I4 x4 => ?_⟩)⟩
            rw [show kindW "NoRow" = "row" by decide +kernel]
            have x24 := x3.trans x4
            have hB4 := hB2.ex x24 (Nat.le_refl _)
            refine ⟨_, rfl, .str "row", .str "row", .str _, .str _, by decide +kernel, by decide +kernel, _, rfl, rfl, _, rfl, ?_⟩
            refine ite2 (fun z => absurd z (by decide +kernel)) (fun _ => ?_)
            refine ⟨_, rfl, .str "row", .str "other", .str _, .str _, by decide +kernel, by decide +kernel, _, rfl, ?_⟩
            refine ite2 (fun z => absurd z (by decide +kernel)) (fun _ => ?_)
            refine ⟨_, rfl, true, rfl, iteT ?_⟩
            refine ⟨_, rfl, d, dd, b, e, _, words, kvs, rfl, hB4.at_, hB4.ben, by omega, fun I5 r5 l5 x5 hr5 hl5 => ?_⟩
            obtain ⟨dxB, mB, kB, fB, esB, BB⟩ := hB1.ben
            have hl5b : SeenL I1 I5 kvs l5 := ⟨hl5.1, fun j v D h => ⟨(hl5.2 j v D h).1, by
              rcases (hl5.2 j v D h).2 with ⟨s, a1, a2⟩ | h2
              · exact .inl ⟨s, a1.back BB.kept (x2.trans x24), a2⟩
              · exact .inr h2⟩⟩
            have hone := SeenL.one hl2 hl5b
            have tv2 := hl2.tv
            have tv5 := hl5.tv
            refine ⟨_, rfl, .list (l5.map (·.2)), .list (l.map (·.2)), .lst (SqL.of hr5) (dpAll_pairs tv5), .lst (SqL.of ((x24.trans x5) _ _ hr2)) (dpAll_pairs fun q hq => (tv2 q hq).ex (x24.trans x5)), (shaped_list fun D hD => ?_).1, (shaped_list fun D hD => ?_).1, _, rfl, ?_⟩
            · obtain ⟨q, hq, rfl⟩ := List.mem_map.mp hD
              exact (tv5 q hq).lay
            · obtain ⟨q, hq, rfl⟩ := List.mem_map.mp hD
              exact (tv2 q hq).lay
            rw [hone, SeqAt.eqv_refl _ (shaped_list fun D hD => by
              obtain ⟨q, hq, rfl⟩ := List.mem_map.mp hD
              exact (tv5 q hq).lay).2]
            refine ite2 (fun z => absurd z (by decide)) (fun _ => ?_)
            have hB5 := hB4.ex x5 (Nat.le_refl _)
            -- bare
            refine ⟨_, rfl, true, rfl, iteT ?_⟩
            refine ⟨_, rfl, _, rfl, bd, bdd, .non, _, rfl, (hB5.oth _ hbdm).1, say_bad (hB5.oth _ hbdm).1 (bad I5 fun q hq => (hB5.oth q hq).1) (fun I6 x6 => ⟨"NoRow", by simp [errs7], rfl, rfl, fun I7 x7 => ?_⟩)⟩
            rw [show kindW "NoRow" = "row" by decide +kernel]
            refine ⟨size_of (by show 2 ≤ 16000000; decide), fun w1 hw1 => ⟨_, rfl, .inr ⟨true, rfl, w1, _, ((1 : Nat) : Int), .str "row", rfl, rfl, SqL.of upd_same, atI_nat rfl, .str "row", .str "row", .str _, .str _, by decide +kernel, by decide +kernel, _, rfl, ?_⟩⟩⟩
            refine ite2 (fun z => absurd z (by decide +kernel)) (fun _ => ?_)
            refine ⟨⟨_, _, _, _, rfl⟩, b, e, words, kvs, hB5.ex (x6.trans (x7.trans (Evl.Ex.new hw1))) (by omega)⟩
        · rintro σ Ib ⟨⟨w8, w9, w10, w11, rfl⟩, b, e, words, kvs, hB⟩
          have hB := LAt.sub hB hsub
          have el : 16000 + 4000 * i + 2000 * ([V.str t, it] : List V).length = 16000 + 4000 * (i + 1) := by
            show 16000 + 4000 * i + 2000 * 2 = _
            omega
          rw [el] at hB
          exact ⟨⟨_, _, _, _, _, _, _, _, _, rfl⟩, b, e, words, kvs, hB⟩
      · rintro σ Hb ⟨⟨v3, v4, v5, v6, v7, v8, v9, v10, v11, rfl⟩, b, e, words, kvs, hA⟩
        exact q Hb
end
end Tg

namespace Tg
open PySem PySem.Spec PyProof.Rows L2
def d_is_whole : He.DefD := ⟨("is_whole", none), "is_whole", "is_whole", defArgs s_is_whole, defBody s_is_whole, defScope s_is_whole, [], []⟩
def d_is_upto : He.DefD := ⟨("is_upto", none), "is_upto", "is_upto", defArgs s_is_upto, defBody s_is_upto, defScope s_is_upto, [], []⟩
def d_is_text_of : He.DefD := ⟨("is_text_of", none), "is_text_of", "is_text_of", defArgs s_is_text_of, defBody s_is_text_of, defScope s_is_text_of, [], []⟩
def d_is_machine : He.DefD := ⟨("is_machine", none), "is_machine", "is_machine", defArgs s_is_machine, defBody s_is_machine, defScope s_is_machine, [], []⟩
def d_signs_of : He.DefD := ⟨("signs_of", none), "signs_of", "signs_of", defArgs s_signs_of, defBody s_signs_of, defScope s_signs_of, [], []⟩
def d_is_row : He.DefD := ⟨("is_row", none), "is_row", "is_row", defArgs s_is_row, defBody s_is_row, defScope s_is_row, [], []⟩
def d_word_of : He.DefD := ⟨("word_of", none), "word_of", "word_of", defArgs s_word_of, defBody s_word_of, defScope s_word_of, [], []⟩
def d_ends_so : He.DefD := ⟨("ends_so", none), "ends_so", "ends_so", defArgs s_ends_so, defBody s_ends_so, defScope s_ends_so, [], []⟩
def d_led_from : He.DefD := ⟨("led_from", none), "led_from", "led_from", defArgs s_led_from, defBody s_led_from, defScope s_led_from, [], []⟩
def d_how_many : He.DefD := ⟨("how_many", none), "how_many", "how_many", defArgs s_how_many, defBody s_how_many, defScope s_how_many, [], []⟩
def d_many_before : He.DefD := ⟨("many_before", none), "many_before", "many_before", defArgs s_many_before, defBody s_many_before, defScope s_many_before, [], []⟩
def d_rests : He.DefD := ⟨("rests", none), "rests", "rests", defArgs s_rests, defBody s_rests, defScope s_rests, [], []⟩
def d_step : He.DefD := ⟨("step", none), "step", "step", defArgs s_step, defBody s_step, defScope s_step, [], []⟩
def d_path : He.DefD := ⟨("path", none), "path", "path", defArgs s_path, defBody s_path, defScope s_path, [], []⟩
def d_is_name : He.DefD := ⟨("is_name", none), "is_name", "is_name", defArgs s_is_name, defBody s_is_name, defScope s_is_name, [], []⟩
def d_Bench_init : He.DefD := ⟨("Bench", some "__init__"), "__init__", "Bench.__init__", defArgs s_Bench_init, defBody s_Bench_init, defScope s_Bench_init, [], []⟩
def d_Bench_turn_to : He.DefD := ⟨("Bench", some "turn_to"), "turn_to", "Bench.turn_to", defArgs s_Bench_turn_to, defBody s_Bench_turn_to, defScope s_Bench_turn_to, [], []⟩
def d_Bench_look_for : He.DefD := ⟨("Bench", some "look_for"), "look_for", "Bench.look_for", defArgs s_Bench_look_for, defBody s_Bench_look_for, defScope s_Bench_look_for, [], []⟩
def d_Bench_put : He.DefD := ⟨("Bench", some "put"), "put", "Bench.put", defArgs s_Bench_put, defBody s_Bench_put, defScope s_Bench_put, [], []⟩
def d_Bench_run : He.DefD := ⟨("Bench", some "run"), "run", "Bench.run", defArgs s_Bench_run, defBody s_Bench_run, defScope s_Bench_run, [], []⟩
def d_Bench_drop : He.DefD := ⟨("Bench", some "drop"), "drop", "Bench.drop", defArgs s_Bench_drop, defBody s_Bench_drop, defScope s_Bench_drop, [], []⟩
def d_Bench_undo : He.DefD := ⟨("Bench", some "undo"), "undo", "Bench.undo", defArgs s_Bench_undo, defBody s_Bench_undo, defScope s_Bench_undo, [], []⟩
def d_Bench_names : He.DefD := ⟨("Bench", some "names"), "names", "Bench.names", defArgs s_Bench_names, defBody s_Bench_names, defScope s_Bench_names, [], []⟩
def d_Bench_row : He.DefD := ⟨("Bench", some "row"), "row", "Bench.row", defArgs s_Bench_row, defBody s_Bench_row, defScope s_Bench_row, [], []⟩
def d_Bench_gone : He.DefD := ⟨("Bench", some "gone"), "gone", "Bench.gone", defArgs s_Bench_gone, defBody s_Bench_gone, defScope s_Bench_gone, [], []⟩
def d_fate : He.DefD := ⟨("fate", none), "fate", "fate", defArgs s_fate, defBody s_fate, defScope s_fate, [], []⟩
def d_shown_word : He.DefD := ⟨("shown_word", none), "shown_word", "shown_word", defArgs s_shown_word, defBody s_shown_word, defScope s_shown_word, [], []⟩
def d_read_word : He.DefD := ⟨("read_word", none), "read_word", "read_word", defArgs s_read_word, defBody s_read_word, defScope s_read_word, [], []⟩
def d_read : He.DefD := ⟨("read", none), "read", "read", defArgs s_read, defBody s_read, defScope s_read, [], []⟩
def d_number_in : He.DefD := ⟨("number_in", none), "number_in", "number_in", defArgs s_number_in, defBody s_number_in, defScope s_number_in, [], []⟩
def d_look_at_words : He.DefD := ⟨("look_at_words", none), "look_at_words", "look_at_words", defArgs s_look_at_words, defBody s_look_at_words, defScope s_look_at_words, [], []⟩
def d_Desk_init : He.DefD := ⟨("Desk", some "__init__"), "__init__", "Desk.__init__", defArgs s_Desk_init, defBody s_Desk_init, defScope s_Desk_init, [], []⟩
def d_Desk_say : He.DefD := ⟨("Desk", some "say"), "say", "Desk.say", defArgs s_Desk_say, defBody s_Desk_say, defScope s_Desk_say, [], []⟩
def d_Desk_begin : He.DefD := ⟨("Desk", some "begin"), "begin", "Desk.begin", defArgs s_Desk_begin, defBody s_Desk_begin, defScope s_Desk_begin, [], []⟩
def d_Desk_done : He.DefD := ⟨("Desk", some "done"), "done", "Desk.done", defArgs s_Desk_done, defBody s_Desk_done, defScope s_Desk_done, [], []⟩
def d_Desk_answered : He.DefD := ⟨("Desk", some "answered"), "answered", "Desk.answered", defArgs s_Desk_answered, defBody s_Desk_answered, defScope s_Desk_answered, [], []⟩
def d_law_cell_at : He.DefD := ⟨("_law_cell_at", none), "_law_cell_at", "_law_cell_at", defArgs s_law_cell_at, defBody s_law_cell_at, defScope s_law_cell_at, [], []⟩
def d_law_pot : He.DefD := ⟨("_law_pot", none), "_law_pot", "_law_pot", defArgs s_law_pot, defBody s_law_pot, defScope s_law_pot, [], []⟩
def d_law_take : He.DefD := ⟨("_law_take", none), "_law_take", "_law_take", defArgs s_law_take, defBody s_law_take, defScope s_law_take, [], []⟩
def d_law_row : He.DefD := ⟨("_law_row", none), "_law_row", "_law_row", defArgs s_law_row, defBody s_law_row, defScope s_law_row, [], []⟩
def d_law_kind_of : He.DefD := ⟨("_law_kind_of", none), "_law_kind_of", "_law_kind_of", defArgs s_law_kind_of, defBody s_law_kind_of, defScope s_law_kind_of, [], []⟩
def d_law_desk_told : He.DefD := ⟨("_law_desk_told", none), "_law_desk_told", "_law_desk_told", defArgs s_law_desk_told, defBody s_law_desk_told, defScope s_law_desk_told, [], []⟩
def d_law_number : He.DefD := ⟨("_law_number", none), "_law_number", "_law_number", defArgs s_law_number, defBody s_law_number, defScope s_law_number, [], []⟩
def d_law_is_machine_text : He.DefD := ⟨("_law_is_machine_text", none), "_law_is_machine_text", "_law_is_machine_text", defArgs s_law_is_machine_text, defBody s_law_is_machine_text, defScope s_law_is_machine_text, [], []⟩
def d_law_is_row : He.DefD := ⟨("_law_is_row", none), "_law_is_row", "_law_is_row", defArgs s_law_is_row, defBody s_law_is_row, defScope s_law_is_row, [], []⟩
def d_law_bent : He.DefD := ⟨("_law_bent", none), "_law_bent", "_law_bent", defArgs s_law_bent, defBody s_law_bent, defScope s_law_bent, [], []⟩
def d_law_seen : He.DefD := ⟨("_law_seen", none), "_law_seen", "_law_seen", defArgs s_law_seen, defBody s_law_seen, defScope s_law_seen, [], []⟩
def d_law : He.DefD := ⟨("law", none), "law", "law", defArgs s_law, defBody s_law, defScope s_law, [], []⟩
def fn : List He.DefD := [d_is_whole, d_is_upto, d_is_text_of, d_is_machine, d_signs_of, d_is_row, d_word_of, d_ends_so, d_led_from, d_how_many, d_many_before, d_rests, d_step, d_path, d_is_name, d_Bench_init, d_Bench_turn_to, d_Bench_look_for, d_Bench_put, d_Bench_run, d_Bench_drop, d_Bench_undo, d_Bench_names, d_Bench_row, d_Bench_gone, d_fate, d_shown_word, d_read_word, d_read, d_number_in, d_look_at_words, d_Desk_init, d_Desk_say, d_Desk_begin, d_Desk_done, d_Desk_answered, d_law_cell_at, d_law_pot, d_law_take, d_law_row, d_law_kind_of, d_law_desk_told, d_law_number, d_law_is_machine_text, d_law_is_row, d_law_bent, d_law_seen, d_law]
def fa : List He.Fa := [.glo "TagError", .glo "NoText", .glo "AtRest", .glo "TooMany", .glo "TooFew", .glo "NoOrder", .glo "NoMachine", .glo "NoSign", .glo "NoName", .glo "NoDeed", .glo "NoRow", .glo "is_whole", .glo "is_upto", .glo "is_text_of", .glo "is_machine", .glo "signs_of", .glo "is_row", .glo "word_of", .glo "ends_so", .glo "led_from", .glo "how_many", .glo "many_before", .glo "rests", .glo "step", .glo "path", .glo "is_name", .glo "Bench", .glo "fate", .glo "FRONTS", .glo "shown_word", .glo "read_word", .glo "read", .glo "FORMS", .glo "BOUNDS", .glo "number_in", .glo "look_at_words", .glo "Desk", .glo "_law_cell_at", .glo "_law_pot", .glo "_law_take", .glo "_law_row", .glo "_law_kind_of", .glo "_law_desk_told", .glo "_law_number", .glo "_law_is_machine_text", .glo "_law_is_row", .glo "_law_bent", .glo "_law_seen", .glo "law", .str "LETTERS" "abcdefgh", .int "MOST_FRONT" 4, .int "MOST_SIGNS" 8, .int "LONGEST" 8, .str "ANY" "?", .int "MOST_NAMES" 12, .int "LONGEST_NAME" 8, .int "LONGEST_ROW" 200, .str "NAME_LETTERS" "abcdefghijklmnopqrstuvwxyz", .str "NONE" "-", .str "FIGURES" "0123456789", .int "MOST_FIGURES" 4, .free "isinstance", .free "int", .free "bool", .free "str", .free "tuple", .free "len", .free "all", .free "zip", .free "range", .free "dict", .free "sorted", .free "max", .free "min", .free "ValueError", .cls "Bench", .mkr "Bench", .cls "Desk", .mkr "Desk", .noat "Bench" "device", .noat "Bench" "kept", .noat "Bench" "earlier", .noat "Desk" "own", .meth "Bench" "turn_to", .meth "Bench" "look_for", .meth "Bench" "put", .meth "Bench" "run", .meth "Bench" "drop", .meth "Bench" "undo", .meth "Bench" "names", .meth "Bench" "row", .meth "Bench" "gone", .meth "Desk" "say", .meth "Desk" "begin", .meth "Desk" "done", .meth "Desk" "answered", .exc "TagError", .exc "NoText", .exc "TooMany", .exc "TooFew", .exc "NoOrder", .exc "NoMachine", .exc "NoSign", .exc "NoName", .exc "NoDeed", .exc "NoRow", .exm "TagError" "TagError" true, .exm "NoText" "TagError" true, .exm "TooMany" "TagError" true, .exm "TooFew" "TagError" true, .exm "NoOrder" "TagError" true, .exm "NoMachine" "TagError" true, .exm "NoSign" "TagError" true, .exm "NoName" "TagError" true, .exm "NoDeed" "TagError" true, .exm "NoRow" "TagError" true, .exm "TagError" "NoText" false, .exm "NoText" "NoText" true, .exm "TooMany" "NoText" false, .exm "TooFew" "NoText" false, .exm "NoOrder" "NoText" false, .exm "NoMachine" "NoText" false, .exm "NoSign" "NoText" false, .exm "NoName" "NoText" false, .exm "NoDeed" "NoText" false, .exm "NoRow" "NoText" false]
/-- what isinstance asks of an exception's class -/
def excB (K : PySem.W.Frag) (D : Addr) : Bool :=
  decide (PySem.W.findIn K (.ref D) "__getattribute__" = some (some (.builtin "BaseException.__getattribute__"))) && (decide (PySem.W.findIn K (.ref D) "__getattr__" = some none) &&
  (decide (PySem.W.subIn K (.ref D) (.type "BaseException") = some true) && (PySem.W.hasDictIn K D && (decide (PySem.W.findIn K (.ref D) "__class__" = some (some (.builtin "object.__class__"))) &&
  (decide (PySem.W.specialIn K (.builtin "object.__class__") "__get__" = some (some (.builtin "getset_descriptor.__get__"))) && (decide (PySem.W.takesIn K (.builtin "object.__class__") = some true) && decide (PySem.W.mroIn K D (.type "object") = some true)))))))
def raisedNames : List Str := ["NoText", "TooMany", "TooFew", "NoOrder", "NoMachine", "NoSign", "NoName", "NoDeed", "NoRow"]
def askedNames : List Str := ["AtRest", "NoDeed", "NoMachine", "NoName", "NoOrder", "NoRow", "NoSign", "NoText", "TooFew", "TooMany"]
/-- isinstance between own exception classes: each is of its own class alone, and a ValueError -/
def kitB2 (K : PySem.W.Frag) : Bool := raisedNames.all fun x => excB K (He.ga K x) && (decide (PySem.W.kitOne K (.ref (He.ga K x)) (.type "ValueError") = some true) &&
  askedNames.all fun y => decide (PySem.W.kitOne K (.ref (He.ga K x)) (.ref (He.ga K y)) = some (decide (x = y))))
def ex (K : PySem.W.Frag) : Bool := kitB2 K && (He.lstB K "FRONTS" [.str "1", .str "2", .str "3", .str "4"] &&
  (He.valsB K (He.ga K "FORMS") [("put", .int 3), ("drop", .int 2), ("undo", .int 1), ("run", .int 3), ("row", .int 2), ("gone", .int 2), ("names", .int 1), ("fate", .int 3), ("count", .int 3)] &&
   He.valsB K (He.ga K "BOUNDS") [("run", .int 200), ("fate", .int 400), ("count", .int 4)]))
def ts : List He.Tab := [((fun K => He.ga K "FORMS"), ["put", "drop", "undo", "run", "row", "gone", "names", "fate", "count"]), ((fun K => He.ga K "BOUNDS"), ["run", "fate", "count"])]
abbrev R : PySem.W.OpenRow := PySem.W.OpenLaw.row PySem.Challenge.rw_tagrows_k92_rows_that_are_none
abbrev hk : PySem.W.Hook := He.hookX 5 fa fn ts [] ex
def ob (s : PySem.W.SharedT) : He.AlX := He.obsX 5 fa fn ts [] ex (HandSHeadRun.getT s)
theorem ob_eq (s : PySem.W.SharedT) : ob s = hk.obs s.abs := He.obsX_eq (HandSHeadRun.getT_eq s)
def loose0 : List Str := ["TagError", "NoText", "AtRest", "TooMany", "TooFew", "NoOrder", "NoMachine", "NoSign", "NoName", "NoDeed", "NoRow", "LETTERS", "MOST_FRONT", "MOST_SIGNS", "LONGEST", "is_whole", "is_upto", "is_text_of", "is_machine", "signs_of", "is_row", "word_of", "ANY", "ends_so", "led_from", "how_many", "many_before", "rests", "step", "path"]
def loose1 : List Str := ["MOST_NAMES", "LONGEST_NAME", "LONGEST_ROW", "NAME_LETTERS", "is_name", "Bench", "fate", "NONE", "FRONTS", "shown_word", "read_word", "read", "FIGURES", "MOST_FIGURES", "FORMS", "BOUNDS", "number_in", "look_at_words", "Desk", "_law_cell_at", "_law_pot", "_law_take", "_law_row", "_law_kind_of", "_law_desk_told", "_law_number", "_law_is_machine_text", "_law_is_row", "_law_bent", "_law_seen"]
def looseN : List Str := loose0 ++ loose1
theorem run0 (w : World) : HandSHeadRun.RunEq R (PySem.W.view R.prog [69]) hk ob 20000 looseN (w.withFollow "special-get-raises" false) := by
  intro os
  kernel_rfl
theorem run1 (w : World) : HandSHeadRun.RunEq R (PySem.W.view R.prog [69]) hk ob 20000 looseN (w.withFollow "special-get-raises" true) := by
  intro os
  kernel_rfl
theorem run (w : World) : HandSHeadRun.RunEq R (PySem.W.view R.prog [69]) hk ob 20000 looseN w :=
  PySem.W.byRow2 "special-get-raises" (P := fun w => HandSHeadRun.RunEq R (PySem.W.view R.prog [69]) hk ob 20000 looseN w) run0 run1 w
end Tg

namespace Tg
open PySem PySem.Spec PyProof.Rows L2
section
variable {K : PySem.W.Frag} {h : Heap} {mg : Str → Option Value} {w : World}
theorem and_of {a b : Bool} (h : (a && b) = true) : a = true ∧ b = true := Bool.and_eq_true_iff.mp h
theorem er_of (X : K.In h) (G : h.Ns mainGlobals mg) (c : He.SaysD fa fn K) {x : Str} (e : (He.Fa.exc x).ok K = true) (g : (He.Fa.glo x).ok K = true) : Er K mg x (He.ga K x) := by
  obtain ⟨h1, h2, h3, h4⟩ := He.exc_ok e
  exact ⟨h1, He.glo_ok X G g, h2, h3, h4⟩
theorem excC_ok {D : Addr} (e : excB K D = true) : ExcC K D := by
  unfold excB at e
  obtain ⟨h1, e⟩ := and_of e
  obtain ⟨h2, e⟩ := and_of e
  obtain ⟨h3, e⟩ := and_of e
  obtain ⟨h4, e⟩ := and_of e
  obtain ⟨h5, e⟩ := and_of e
  obtain ⟨h6, e⟩ := and_of e
  obtain ⟨h7, h8⟩ := and_of e
  exact ⟨of_decide_eq_true h1, of_decide_eq_true h2, of_decide_eq_true h3, h4, of_decide_eq_true h5, of_decide_eq_true h6, of_decide_eq_true h7, of_decide_eq_true h8⟩
theorem kit_ex (hk : kitB2 K = true) (x : Str) (hx : x ∈ raisedNames) : excB K (He.ga K x) = true ∧ PySem.W.kitOne K (.ref (He.ga K x)) (.type "ValueError") = some true ∧ ∀ y ∈ askedNames, PySem.W.kitOne K (.ref (He.ga K x)) (.ref (He.ga K y)) = some (decide (x = y)) := by
  unfold kitB2 at hk
  have e := List.all_eq_true.mp hk x hx
  obtain ⟨h1, e⟩ := and_of e
  obtain ⟨h2, h3⟩ := and_of e
  exact ⟨h1, of_decide_eq_true h2, fun y hy => of_decide_eq_true (List.all_eq_true.mp h3 y hy)⟩
theorem tab_of (c : He.SaysT fa fn ts w K) (i : Nat) {t : He.Tab} (h : ts[i]? = some t := by rfl) : He.dicW K (t.1 K) = some (He.keysIn w.params t.2) := by
  have e : ts.map (fun t => He.dicW K (t.1 K)) = ts.map fun t => some (He.keysIn w.params t.2) := congrArg (fun z : He.AlT => z.2) c
  have e2 : (ts.map fun t => He.dicW K (t.1 K))[i]? = (ts.map fun t => some (He.keysIn w.params t.2))[i]? := by rw [e]
  rw [List.getElem?_map, List.getElem?_map, h] at e2
  exact Option.some.inj e2
theorem txt_of (X : K.In h) (G : h.Ns mainGlobals mg) (s : He.SaysX fa fn ts [] ex w h K) : Txt w K mg := by
  have c : He.SaysD fa fn K := s.t.d
  have hm := s.more
  unfold ex at hm
  obtain ⟨hk, hm⟩ := and_of hm
  obtain ⟨hl, hm⟩ := and_of hm
  obtain ⟨hv1, hv2⟩ := and_of hm
  exact {
  g_TagError := He.glo_ok X G (c.fact 0 (f := .glo "TagError") rfl),
  g_NoText := He.glo_ok X G (c.fact 1 (f := .glo "NoText") rfl),
  g_AtRest := He.glo_ok X G (c.fact 2 (f := .glo "AtRest") rfl),
  g_TooMany := He.glo_ok X G (c.fact 3 (f := .glo "TooMany") rfl),
  g_TooFew := He.glo_ok X G (c.fact 4 (f := .glo "TooFew") rfl),
  g_NoOrder := He.glo_ok X G (c.fact 5 (f := .glo "NoOrder") rfl),
  g_NoMachine := He.glo_ok X G (c.fact 6 (f := .glo "NoMachine") rfl),
  g_NoSign := He.glo_ok X G (c.fact 7 (f := .glo "NoSign") rfl),
  g_NoName := He.glo_ok X G (c.fact 8 (f := .glo "NoName") rfl),
  g_NoDeed := He.glo_ok X G (c.fact 9 (f := .glo "NoDeed") rfl),
  g_NoRow := He.glo_ok X G (c.fact 10 (f := .glo "NoRow") rfl),
  g_is_whole := He.glo_ok X G (c.fact 11 (f := .glo "is_whole") rfl),
  g_is_upto := He.glo_ok X G (c.fact 12 (f := .glo "is_upto") rfl),
  g_is_text_of := He.glo_ok X G (c.fact 13 (f := .glo "is_text_of") rfl),
  g_is_machine := He.glo_ok X G (c.fact 14 (f := .glo "is_machine") rfl),
  g_signs_of := He.glo_ok X G (c.fact 15 (f := .glo "signs_of") rfl),
  g_is_row := He.glo_ok X G (c.fact 16 (f := .glo "is_row") rfl),
  g_word_of := He.glo_ok X G (c.fact 17 (f := .glo "word_of") rfl),
  g_ends_so := He.glo_ok X G (c.fact 18 (f := .glo "ends_so") rfl),
  g_led_from := He.glo_ok X G (c.fact 19 (f := .glo "led_from") rfl),
  g_how_many := He.glo_ok X G (c.fact 20 (f := .glo "how_many") rfl),
  g_many_before := He.glo_ok X G (c.fact 21 (f := .glo "many_before") rfl),
  g_rests := He.glo_ok X G (c.fact 22 (f := .glo "rests") rfl),
  g_step := He.glo_ok X G (c.fact 23 (f := .glo "step") rfl),
  g_path := He.glo_ok X G (c.fact 24 (f := .glo "path") rfl),
  g_is_name := He.glo_ok X G (c.fact 25 (f := .glo "is_name") rfl),
  g_Bench := He.glo_ok X G (c.fact 26 (f := .glo "Bench") rfl),
  g_fate := He.glo_ok X G (c.fact 27 (f := .glo "fate") rfl),
  g_FRONTS := He.glo_ok X G (c.fact 28 (f := .glo "FRONTS") rfl),
  g_shown_word := He.glo_ok X G (c.fact 29 (f := .glo "shown_word") rfl),
  g_read_word := He.glo_ok X G (c.fact 30 (f := .glo "read_word") rfl),
  g_read := He.glo_ok X G (c.fact 31 (f := .glo "read") rfl),
  g_FORMS := He.glo_ok X G (c.fact 32 (f := .glo "FORMS") rfl),
  g_BOUNDS := He.glo_ok X G (c.fact 33 (f := .glo "BOUNDS") rfl),
  g_number_in := He.glo_ok X G (c.fact 34 (f := .glo "number_in") rfl),
  g_look_at_words := He.glo_ok X G (c.fact 35 (f := .glo "look_at_words") rfl),
  g_Desk := He.glo_ok X G (c.fact 36 (f := .glo "Desk") rfl),
  g_law_cell_at := He.glo_ok X G (c.fact 37 (f := .glo "_law_cell_at") rfl),
  g_law_pot := He.glo_ok X G (c.fact 38 (f := .glo "_law_pot") rfl),
  g_law_take := He.glo_ok X G (c.fact 39 (f := .glo "_law_take") rfl),
  g_law_row := He.glo_ok X G (c.fact 40 (f := .glo "_law_row") rfl),
  g_law_kind_of := He.glo_ok X G (c.fact 41 (f := .glo "_law_kind_of") rfl),
  g_law_desk_told := He.glo_ok X G (c.fact 42 (f := .glo "_law_desk_told") rfl),
  g_law_number := He.glo_ok X G (c.fact 43 (f := .glo "_law_number") rfl),
  g_law_is_machine_text := He.glo_ok X G (c.fact 44 (f := .glo "_law_is_machine_text") rfl),
  g_law_is_row := He.glo_ok X G (c.fact 45 (f := .glo "_law_is_row") rfl),
  g_law_bent := He.glo_ok X G (c.fact 46 (f := .glo "_law_bent") rfl),
  g_law_seen := He.glo_ok X G (c.fact 47 (f := .glo "_law_seen") rfl),
  g_law := He.glo_ok X G (c.fact 48 (f := .glo "law") rfl),
  f_isinstance := He.free_ok X G (c.fact 61 (f := .free "isinstance") rfl),
  f_int := He.free_ok X G (c.fact 62 (f := .free "int") rfl),
  f_bool := He.free_ok X G (c.fact 63 (f := .free "bool") rfl),
  f_str := He.free_ok X G (c.fact 64 (f := .free "str") rfl),
  f_tuple := He.free_ok X G (c.fact 65 (f := .free "tuple") rfl),
  f_len := He.free_ok X G (c.fact 66 (f := .free "len") rfl),
  f_all := He.free_ok X G (c.fact 67 (f := .free "all") rfl),
  f_zip := He.free_ok X G (c.fact 68 (f := .free "zip") rfl),
  f_range := He.free_ok X G (c.fact 69 (f := .free "range") rfl),
  f_dict := He.free_ok X G (c.fact 70 (f := .free "dict") rfl),
  f_sorted := He.free_ok X G (c.fact 71 (f := .free "sorted") rfl),
  f_max := He.free_ok X G (c.fact 72 (f := .free "max") rfl),
  f_min := He.free_ok X G (c.fact 73 (f := .free "min") rfl),
  f_ValueError := He.free_ok X G (c.fact 74 (f := .free "ValueError") rfl),
  c_LETTERS := He.str_ok X G (c.fact 49 (f := .str "LETTERS" "abcdefgh") rfl),
  c_MOST_FRONT := He.int_ok X G (c.fact 50 (f := .int "MOST_FRONT" 4) rfl),
  c_MOST_SIGNS := He.int_ok X G (c.fact 51 (f := .int "MOST_SIGNS" 8) rfl),
  c_LONGEST := He.int_ok X G (c.fact 52 (f := .int "LONGEST" 8) rfl),
  c_ANY := He.str_ok X G (c.fact 53 (f := .str "ANY" "?") rfl),
  c_MOST_NAMES := He.int_ok X G (c.fact 54 (f := .int "MOST_NAMES" 12) rfl),
  c_LONGEST_NAME := He.int_ok X G (c.fact 55 (f := .int "LONGEST_NAME" 8) rfl),
  c_LONGEST_ROW := He.int_ok X G (c.fact 56 (f := .int "LONGEST_ROW" 200) rfl),
  c_NAME_LETTERS := He.str_ok X G (c.fact 57 (f := .str "NAME_LETTERS" "abcdefghijklmnopqrstuvwxyz") rfl),
  c_NONE := He.str_ok X G (c.fact 58 (f := .str "NONE" "-") rfl),
  c_FIGURES := He.str_ok X G (c.fact 59 (f := .str "FIGURES" "0123456789") rfl),
  c_MOST_FIGURES := He.int_ok X G (c.fact 60 (f := .int "MOST_FIGURES" 4) rfl),
  cl_Bench := He.cls_ok (c.fact 75 (f := .cls "Bench") rfl),
  mk_Bench := He.mkr_ok (c.fact 76 (f := .mkr "Bench") rfl),
  cl_Desk := He.cls_ok (c.fact 77 (f := .cls "Desk") rfl),
  mk_Desk := He.mkr_ok (c.fact 78 (f := .mkr "Desk") rfl),
  na_device := He.noat_ok (c.fact 79 (f := .noat "Bench" "device") rfl),
  na_kept := He.noat_ok (c.fact 80 (f := .noat "Bench" "kept") rfl),
  na_earlier := He.noat_ok (c.fact 81 (f := .noat "Bench" "earlier") rfl),
  na_own := He.noat_ok (c.fact 82 (f := .noat "Desk" "own") rfl),
  d_is_whole := (c.def_ 0 (d := d_is_whole) rfl),
  d_is_upto := (c.def_ 1 (d := d_is_upto) rfl),
  d_is_text_of := (c.def_ 2 (d := d_is_text_of) rfl),
  d_is_machine := (c.def_ 3 (d := d_is_machine) rfl),
  d_signs_of := (c.def_ 4 (d := d_signs_of) rfl),
  d_is_row := (c.def_ 5 (d := d_is_row) rfl),
  d_word_of := (c.def_ 6 (d := d_word_of) rfl),
  d_ends_so := (c.def_ 7 (d := d_ends_so) rfl),
  d_led_from := (c.def_ 8 (d := d_led_from) rfl),
  d_how_many := (c.def_ 9 (d := d_how_many) rfl),
  d_many_before := (c.def_ 10 (d := d_many_before) rfl),
  d_rests := (c.def_ 11 (d := d_rests) rfl),
  d_step := (c.def_ 12 (d := d_step) rfl),
  d_path := (c.def_ 13 (d := d_path) rfl),
  d_is_name := (c.def_ 14 (d := d_is_name) rfl),
  d_Bench_init := (c.def_ 15 (d := d_Bench_init) rfl),
  d_Bench_turn_to := (c.def_ 16 (d := d_Bench_turn_to) rfl),
  m_Bench_turn_to := He.meth_ok (c.fact 83 (f := .meth "Bench" "turn_to") rfl),
  d_Bench_look_for := (c.def_ 17 (d := d_Bench_look_for) rfl),
  m_Bench_look_for := He.meth_ok (c.fact 84 (f := .meth "Bench" "look_for") rfl),
  d_Bench_put := (c.def_ 18 (d := d_Bench_put) rfl),
  m_Bench_put := He.meth_ok (c.fact 85 (f := .meth "Bench" "put") rfl),
  d_Bench_run := (c.def_ 19 (d := d_Bench_run) rfl),
  m_Bench_run := He.meth_ok (c.fact 86 (f := .meth "Bench" "run") rfl),
  d_Bench_drop := (c.def_ 20 (d := d_Bench_drop) rfl),
  m_Bench_drop := He.meth_ok (c.fact 87 (f := .meth "Bench" "drop") rfl),
  d_Bench_undo := (c.def_ 21 (d := d_Bench_undo) rfl),
  m_Bench_undo := He.meth_ok (c.fact 88 (f := .meth "Bench" "undo") rfl),
  d_Bench_names := (c.def_ 22 (d := d_Bench_names) rfl),
  m_Bench_names := He.meth_ok (c.fact 89 (f := .meth "Bench" "names") rfl),
  d_Bench_row := (c.def_ 23 (d := d_Bench_row) rfl),
  m_Bench_row := He.meth_ok (c.fact 90 (f := .meth "Bench" "row") rfl),
  d_Bench_gone := (c.def_ 24 (d := d_Bench_gone) rfl),
  m_Bench_gone := He.meth_ok (c.fact 91 (f := .meth "Bench" "gone") rfl),
  d_fate := (c.def_ 25 (d := d_fate) rfl),
  d_shown_word := (c.def_ 26 (d := d_shown_word) rfl),
  d_read_word := (c.def_ 27 (d := d_read_word) rfl),
  d_read := (c.def_ 28 (d := d_read) rfl),
  d_number_in := (c.def_ 29 (d := d_number_in) rfl),
  d_look_at_words := (c.def_ 30 (d := d_look_at_words) rfl),
  d_Desk_init := (c.def_ 31 (d := d_Desk_init) rfl),
  d_Desk_say := (c.def_ 32 (d := d_Desk_say) rfl),
  m_Desk_say := He.meth_ok (c.fact 92 (f := .meth "Desk" "say") rfl),
  d_Desk_begin := (c.def_ 33 (d := d_Desk_begin) rfl),
  m_Desk_begin := He.meth_ok (c.fact 93 (f := .meth "Desk" "begin") rfl),
  d_Desk_done := (c.def_ 34 (d := d_Desk_done) rfl),
  m_Desk_done := He.meth_ok (c.fact 94 (f := .meth "Desk" "done") rfl),
  d_Desk_answered := (c.def_ 35 (d := d_Desk_answered) rfl),
  m_Desk_answered := He.meth_ok (c.fact 95 (f := .meth "Desk" "answered") rfl),
  d_law_cell_at := (c.def_ 36 (d := d_law_cell_at) rfl),
  d_law_pot := (c.def_ 37 (d := d_law_pot) rfl),
  d_law_take := (c.def_ 38 (d := d_law_take) rfl),
  d_law_row := (c.def_ 39 (d := d_law_row) rfl),
  d_law_kind_of := (c.def_ 40 (d := d_law_kind_of) rfl),
  d_law_desk_told := (c.def_ 41 (d := d_law_desk_told) rfl),
  d_law_number := (c.def_ 42 (d := d_law_number) rfl),
  d_law_is_machine_text := (c.def_ 43 (d := d_law_is_machine_text) rfl),
  d_law_is_row := (c.def_ 44 (d := d_law_is_row) rfl),
  d_law_bent := (c.def_ 45 (d := d_law_bent) rfl),
  d_law_seen := (c.def_ 46 (d := d_law_seen) rfl),
  d_law := (c.def_ 47 (d := d_law) rfl),
  e_NoText := er_of X G c (c.fact 97 (f := .exc "NoText") rfl) (c.fact 1 (f := .glo "NoText") rfl),
  x_NoText := He.exm_ok (c.fact 107 (f := .exm "NoText" "TagError" true) rfl),
  t_NoText := He.exm_ok (c.fact 117 (f := .exm "NoText" "NoText" true) rfl),
  i_NoText := excC_ok (kit_ex hk "NoText" (by simp [raisedNames])).1,
  v_NoText := (kit_ex hk "NoText" (by simp [raisedNames])).2.1,
  e_NoMachine := er_of X G c (c.fact 101 (f := .exc "NoMachine") rfl) (c.fact 6 (f := .glo "NoMachine") rfl),
  x_NoMachine := He.exm_ok (c.fact 111 (f := .exm "NoMachine" "TagError" true) rfl),
  t_NoMachine := He.exm_ok (c.fact 121 (f := .exm "NoMachine" "NoText" false) rfl),
  i_NoMachine := excC_ok (kit_ex hk "NoMachine" (by simp [raisedNames])).1,
  v_NoMachine := (kit_ex hk "NoMachine" (by simp [raisedNames])).2.1,
  e_NoSign := er_of X G c (c.fact 102 (f := .exc "NoSign") rfl) (c.fact 7 (f := .glo "NoSign") rfl),
  x_NoSign := He.exm_ok (c.fact 112 (f := .exm "NoSign" "TagError" true) rfl),
  t_NoSign := He.exm_ok (c.fact 122 (f := .exm "NoSign" "NoText" false) rfl),
  i_NoSign := excC_ok (kit_ex hk "NoSign" (by simp [raisedNames])).1,
  v_NoSign := (kit_ex hk "NoSign" (by simp [raisedNames])).2.1,
  e_NoName := er_of X G c (c.fact 103 (f := .exc "NoName") rfl) (c.fact 8 (f := .glo "NoName") rfl),
  x_NoName := He.exm_ok (c.fact 113 (f := .exm "NoName" "TagError" true) rfl),
  t_NoName := He.exm_ok (c.fact 123 (f := .exm "NoName" "NoText" false) rfl),
  i_NoName := excC_ok (kit_ex hk "NoName" (by simp [raisedNames])).1,
  v_NoName := (kit_ex hk "NoName" (by simp [raisedNames])).2.1,
  e_NoDeed := er_of X G c (c.fact 104 (f := .exc "NoDeed") rfl) (c.fact 9 (f := .glo "NoDeed") rfl),
  x_NoDeed := He.exm_ok (c.fact 114 (f := .exm "NoDeed" "TagError" true) rfl),
  t_NoDeed := He.exm_ok (c.fact 124 (f := .exm "NoDeed" "NoText" false) rfl),
  i_NoDeed := excC_ok (kit_ex hk "NoDeed" (by simp [raisedNames])).1,
  v_NoDeed := (kit_ex hk "NoDeed" (by simp [raisedNames])).2.1,
  e_NoRow := er_of X G c (c.fact 105 (f := .exc "NoRow") rfl) (c.fact 10 (f := .glo "NoRow") rfl),
  x_NoRow := He.exm_ok (c.fact 115 (f := .exm "NoRow" "TagError" true) rfl),
  t_NoRow := He.exm_ok (c.fact 125 (f := .exm "NoRow" "NoText" false) rfl),
  i_NoRow := excC_ok (kit_ex hk "NoRow" (by simp [raisedNames])).1,
  v_NoRow := (kit_ex hk "NoRow" (by simp [raisedNames])).2.1,
  e_TooMany := er_of X G c (c.fact 98 (f := .exc "TooMany") rfl) (c.fact 3 (f := .glo "TooMany") rfl),
  x_TooMany := He.exm_ok (c.fact 108 (f := .exm "TooMany" "TagError" true) rfl),
  t_TooMany := He.exm_ok (c.fact 118 (f := .exm "TooMany" "NoText" false) rfl),
  i_TooMany := excC_ok (kit_ex hk "TooMany" (by simp [raisedNames])).1,
  v_TooMany := (kit_ex hk "TooMany" (by simp [raisedNames])).2.1,
  kit := fun x hx y hy => (kit_ex hk x (by simp only [List.mem_cons, List.not_mem_nil, or_false] at hx; rcases hx with rfl | rfl | rfl | rfl | rfl | rfl | rfl <;> simp [raisedNames])).2.2 y hy,
  fronts := He.lstB_ok hl,
  forms := ktab_of (tab_of s.t 0) hv1,
  bounds := ktab_of (tab_of s.t 1) hv2
  }
end
end Tg
open PySem PySem.W PySem.Calls PyProof.Rows
theorem PySem.Challenge.cw_tagrows_k92_rows_that_are_none_holds : PySem.Challenge.rw_tagrows_k92_rows_that_are_none.Holds := by
  w_on; o_law
  refine HandSHeadRun.head_any (r := OpenLaw.row PySem.Challenge.rw_tagrows_k92_rows_that_are_none) (q := view (OpenLaw.row PySem.Challenge.rw_tagrows_k92_rows_that_are_none).prog [69]) (H := Tg.hk) (ob := Tg.ob) (M := 20000) (loose := Tg.looseN)
    (d := HandSHeadRun.topDef (OpenLaw.row PySem.Challenge.rw_tagrows_k92_rows_that_are_none).prog 69) (kwd := []) Tg.ob_eq
    (by kernel_rfl) (fun s => by kernel_rfl) Tg.run (by kernel_rfl) (by kernel_rfl) (by kernel_rfl) (by rfl) (by first | assumption | decide +kernel) (by decide +kernel) ⟨rfl, rfl, rfl, rfl, rfl, by decide +kernel⟩ ?hw ?hc
  case hw => w_witness2
  case hc =>
    refine L2.walk_ofE (l := PySem.Challenge.rw_tagrows_k92_rows_that_are_none) (n := 63) (k := 10) (x := "script") (CX := L2.CX0) rfl (by decide) (by kernel_rfl) ⟨rfl, by decide, by decide⟩ ?F (fun _ _ _ _ z => z)
    intro w mg fa h Y G hmg0
    obtain ⟨K, KX, c⟩ := Y
    have hmg : mg ("law" : PySem.Str) = some (.ref fa) := by
      have e : (HandSHeadRun.topDef (OpenLaw.row PySem.Challenge.rw_tagrows_k92_rows_that_are_none).prog 69).name = ("law" : PySem.Str) := by kernel_rfl
      rw [← e]
      exact hmg0
    have T : Tg.Txt w K mg := Tg.txt_of KX G c
    obtain ⟨fd, F⟩ := T.d_law
    have e := hmg.symm.trans T.g_law
    cases e
    have b := L2.FunD.bindsA (ps := ["script"]) F fun _ _ _ _ _ _ us hl => match us, hl with | [_], _ => rfl
    refine ⟨K, fd, Tg.spLaw K, KX, fun s v => b s [v] rfl, fun H a ns hl _ hS => ⟨a, ns, rfl, hS, fun _ => rfl⟩, fun base _ _ => ?_⟩
    exact Tg.k_law T F
