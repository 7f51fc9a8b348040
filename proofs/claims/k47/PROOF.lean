import PyProof.Rows.All
import Wide.All
import OpenK.AllK
import Wide.FinOn
import KE.KStateDown
import HandS.ForMost
import HandS.More
import HandS.Style
import HandS.NoneIn
import HandS.TupSets
import HandS.SetKeys
import HandS.Defaults
import HandS.MakeKw
import HandS.MakeKwOnly
import HandS.CallRecv
import HandS.Conv
import HandS.ReplaceDef
import HandS.ReplaceLit
import HandS.TupAny
import HandS.Lambda
import HandS.Nested
import HandS.Head0
import HandS.Head1
import HandS.Head2
import HandS.HeadHook1
import HandS.HeadHook2
import HandS.HeadHook3
import HandS.HeadHook4
import HandS.EndTab
import HandS.HeadWalk
import PySem.Challenge.RW_twinseam_k47_whole_spans_tell_the_same
import KE.GoesMore
import PyProof.TupleOfStr
import PyProof.Draws
import PyProof.TypeEq
set_option Elab.async false
set_option linter.all false
set_option maxRecDepth 100000
namespace TwK
open PySem PySem.Spec PyProof.Rows L2
/-! ### the text by places -/
def top (i : Nat) : Stmt := PySem.Challenge.pw_twinseam_k47_whole_spans_tell_the_same.main.body.getD i (.Pass ⟨0, 0, 0, 0⟩)

abbrev sRowOf : Stmt := top 8
abbrev sWordBetween : Stmt := top 10
abbrev sCodesBetween : Stmt := top 11
abbrev sMInit : Stmt := inClass (top 14) 0
abbrev sMSetOne : Stmt := inClass (top 14) 1
abbrev sMSetOther : Stmt := inClass (top 14) 2
abbrev sMBegun : Stmt := inClass (top 14) 7
abbrev sMGrown : Stmt := inClass (top 14) 8
abbrev sMGoesOn : Stmt := inClass (top 14) 9
abbrev sMLongestMatch : Stmt := inClass (top 14) 10
abbrev sMBlocks : Stmt := inClass (top 14) 11
abbrev sMCodes : Stmt := inClass (top 14) 12
abbrev sMWhole : Stmt := inClass (top 14) 14
abbrev sMRatio : Stmt := inClass (top 14) 15
abbrev sIsBlankLine : Stmt := top 18
abbrev sIsBlankSign : Stmt := top 19
abbrev sToldApart : Stmt := top 20
abbrev sDInit : Stmt := inClass (top 21) 0
abbrev sDPieces : Stmt := inClass (top 21) 1
abbrev sDReplaced : Stmt := inClass (top 21) 3
abbrev sDPartner : Stmt := inClass (top 21) 4
abbrev sDPaired : Stmt := inClass (top 21) 5
abbrev sSpansOf : Stmt := top 23
abbrev sAlone : Stmt := top 24
abbrev sSInit : Stmt := inClass (top 25) 0
abbrev sSPutAlone : Stmt := inClass (top 25) 1
abbrev sSLay : Stmt := inClass (top 25) 2
abbrev sSPutBoth : Stmt := inClass (top 25) 3
abbrev sPairsOf : Stmt := top 26
abbrev sFreshSide : Stmt := top 27
abbrev sFreshRow : Stmt := top 28
abbrev sShortened : Stmt := top 29
abbrev sPairs : Stmt := top 30
abbrev sIsChanged : Stmt := top 31
abbrev sNextChanges : Stmt := top 32
abbrev sLawDraws : Stmt := top 34
abbrev sLawMixed : Stmt := top 35
abbrev sLawTake : Stmt := top 36
abbrev sLawPick : Stmt := top 37
abbrev sLawText : Stmt := top 38
abbrev sLawLine : Stmt := top 39
abbrev sLawNearLine : Stmt := top 40
abbrev sLawLines : Stmt := top 41
abbrev sLawBentLines : Stmt := top 42
abbrev sLawTwoTexts : Stmt := top 43
abbrev sLawBlank : Stmt := top 44
abbrev sLawJunkLines : Stmt := top 45
abbrev sLawJunkSigns : Stmt := top 46
abbrev sLawLeft : Stmt := top 47
abbrev sLawSpansRight : Stmt := top 48
abbrev sLaw : Stmt := top 49
/-! ### the defs as data -/
def dRowOf : He.DefD := ⟨("row_of", none), "row_of", "row_of", defArgs sRowOf, defBody sRowOf, defScope sRowOf, [], []⟩
def dWordBetween : He.DefD := ⟨("word_between", none), "word_between", "word_between", defArgs sWordBetween, defBody sWordBetween, defScope sWordBetween, [], []⟩
def dCodesBetween : He.DefD := ⟨("codes_between", none), "codes_between", "codes_between", defArgs sCodesBetween, defBody sCodesBetween, defScope sCodesBetween, [], []⟩
def dMInit : He.DefD := ⟨("Matcher", some "__init__"), "__init__", "Matcher.__init__", defArgs sMInit, defBody sMInit, defScope sMInit, [.str "", .str ""], [("junk", .non), ("auto", .bl true)]⟩
def dMSetOne : He.DefD := ⟨("Matcher", some "set_one"), "set_one", "Matcher.set_one", defArgs sMSetOne, defBody sMSetOne, defScope sMSetOne, [], []⟩
def dMSetOther : He.DefD := ⟨("Matcher", some "set_other"), "set_other", "Matcher.set_other", defArgs sMSetOther, defBody sMSetOther, defScope sMSetOther, [], []⟩
def dMBegun : He.DefD := ⟨("Matcher", some "begun"), "begun", "Matcher.begun", defArgs sMBegun, defBody sMBegun, defScope sMBegun, [], []⟩
def dMGrown : He.DefD := ⟨("Matcher", some "grown"), "grown", "Matcher.grown", defArgs sMGrown, defBody sMGrown, defScope sMGrown, [], []⟩
def dMGoesOn : He.DefD := ⟨("Matcher", some "goes_on"), "goes_on", "Matcher.goes_on", defArgs sMGoesOn, defBody sMGoesOn, defScope sMGoesOn, [], []⟩
def dMLongestMatch : He.DefD := ⟨("Matcher", some "longest_match"), "longest_match", "Matcher.longest_match", defArgs sMLongestMatch, defBody sMLongestMatch, defScope sMLongestMatch, [.int 0, .non, .int 0, .non], []⟩
def dMBlocks : He.DefD := ⟨("Matcher", some "blocks"), "blocks", "Matcher.blocks", defArgs sMBlocks, defBody sMBlocks, defScope sMBlocks, [], []⟩
def dMCodes : He.DefD := ⟨("Matcher", some "codes"), "codes", "Matcher.codes", defArgs sMCodes, defBody sMCodes, defScope sMCodes, [], []⟩
def dMWhole : He.DefD := ⟨("Matcher", some "whole"), "whole", "Matcher.whole", defArgs sMWhole, defBody sMWhole, defScope sMWhole, [], []⟩
def dMRatio : He.DefD := ⟨("Matcher", some "ratio"), "ratio", "Matcher.ratio", defArgs sMRatio, defBody sMRatio, defScope sMRatio, [], []⟩
def dIsBlankLine : He.DefD := ⟨("is_blank_line", none), "is_blank_line", "is_blank_line", defArgs sIsBlankLine, defBody sIsBlankLine, defScope sIsBlankLine, [], []⟩
def dIsBlankSign : He.DefD := ⟨("is_blank_sign", none), "is_blank_sign", "is_blank_sign", defArgs sIsBlankSign, defBody sIsBlankSign, defScope sIsBlankSign, [], []⟩
def dToldApart : He.DefD := ⟨("told_apart", none), "told_apart", "told_apart", defArgs sToldApart, defBody sToldApart, defScope sToldApart, [], []⟩
def dDInit : He.DefD := ⟨("Differ", some "__init__"), "__init__", "Differ.__init__", defArgs sDInit, defBody sDInit, defScope sDInit, [], [("line_junk", .non), ("sign_junk", .non)]⟩
def dDPieces : He.DefD := ⟨("Differ", some "pieces"), "pieces", "Differ.pieces", defArgs sDPieces, defBody sDPieces, defScope sDPieces, [], []⟩
def dDReplaced : He.DefD := ⟨("Differ", some "replaced"), "replaced", "Differ.replaced", defArgs sDReplaced, defBody sDReplaced, defScope sDReplaced, [], []⟩
def dDPartner : He.DefD := ⟨("Differ", some "partner"), "partner", "Differ.partner", defArgs sDPartner, defBody sDPartner, defScope sDPartner, [], []⟩
def dDPaired : He.DefD := ⟨("Differ", some "paired"), "paired", "Differ.paired", defArgs sDPaired, defBody sDPaired, defScope sDPaired, [], []⟩
def dSpansOf : He.DefD := ⟨("spans_of", none), "spans_of", "spans_of", defArgs sSpansOf, defBody sSpansOf, defScope sSpansOf, [], []⟩
def dAlone : He.DefD := ⟨("alone", none), "alone", "alone", defArgs sAlone, defBody sAlone, defScope sAlone, [], []⟩
def dSInit : He.DefD := ⟨("Sheet", some "__init__"), "__init__", "Sheet.__init__", defArgs sSInit, defBody sSInit, defScope sSInit, [], []⟩
def dSPutAlone : He.DefD := ⟨("Sheet", some "put_alone"), "put_alone", "Sheet.put_alone", defArgs sSPutAlone, defBody sSPutAlone, defScope sSPutAlone, [], []⟩
def dSLay : He.DefD := ⟨("Sheet", some "lay"), "lay", "Sheet.lay", defArgs sSLay, defBody sSLay, defScope sSLay, [], []⟩
def dSPutBoth : He.DefD := ⟨("Sheet", some "put_both"), "put_both", "Sheet.put_both", defArgs sSPutBoth, defBody sSPutBoth, defScope sSPutBoth, [], []⟩
def dPairsOf : He.DefD := ⟨("pairs_of", none), "pairs_of", "pairs_of", defArgs sPairsOf, defBody sPairsOf, defScope sPairsOf, [], []⟩
def dFreshSide : He.DefD := ⟨("fresh_side", none), "fresh_side", "fresh_side", defArgs sFreshSide, defBody sFreshSide, defScope sFreshSide, [], []⟩
def dFreshRow : He.DefD := ⟨("fresh_row", none), "fresh_row", "fresh_row", defArgs sFreshRow, defBody sFreshRow, defScope sFreshRow, [], []⟩
def dShortened : He.DefD := ⟨("shortened", none), "shortened", "shortened", defArgs sShortened, defBody sShortened, defScope sShortened, [], []⟩
def dPairs : He.DefD := ⟨("pairs", none), "pairs", "pairs", defArgs sPairs, defBody sPairs, defScope sPairs, [], [("n", .non), ("line_junk", .non), ("sign_junk", .str "blanks")]⟩
def dIsChanged : He.DefD := ⟨("is_changed", none), "is_changed", "is_changed", defArgs sIsChanged, defBody sIsChanged, defScope sIsChanged, [], []⟩
def dNextChanges : He.DefD := ⟨("next_changes", none), "next_changes", "next_changes", defArgs sNextChanges, defBody sNextChanges, defScope sNextChanges, [], []⟩
def dLawDraws : He.DefD := ⟨("_law_draws", none), "_law_draws", "_law_draws", defArgs sLawDraws, defBody sLawDraws, defScope sLawDraws, [], []⟩
def dLawMixed : He.DefD := ⟨("_law_mixed", none), "_law_mixed", "_law_mixed", defArgs sLawMixed, defBody sLawMixed, defScope sLawMixed, [], []⟩
def dLawTake : He.DefD := ⟨("_law_take", none), "_law_take", "_law_take", defArgs sLawTake, defBody sLawTake, defScope sLawTake, [], []⟩
def dLawPick : He.DefD := ⟨("_law_pick", none), "_law_pick", "_law_pick", defArgs sLawPick, defBody sLawPick, defScope sLawPick, [], []⟩
def dLawText : He.DefD := ⟨("_law_text", none), "_law_text", "_law_text", defArgs sLawText, defBody sLawText, defScope sLawText, [], []⟩
def dLawLine : He.DefD := ⟨("_law_line", none), "_law_line", "_law_line", defArgs sLawLine, defBody sLawLine, defScope sLawLine, [], []⟩
def dLawNearLine : He.DefD := ⟨("_law_near_line", none), "_law_near_line", "_law_near_line", defArgs sLawNearLine, defBody sLawNearLine, defScope sLawNearLine, [], []⟩
def dLawLines : He.DefD := ⟨("_law_lines", none), "_law_lines", "_law_lines", defArgs sLawLines, defBody sLawLines, defScope sLawLines, [], []⟩
def dLawBentLines : He.DefD := ⟨("_law_bent_lines", none), "_law_bent_lines", "_law_bent_lines", defArgs sLawBentLines, defBody sLawBentLines, defScope sLawBentLines, [], []⟩
def dLawTwoTexts : He.DefD := ⟨("_law_two_texts", none), "_law_two_texts", "_law_two_texts", defArgs sLawTwoTexts, defBody sLawTwoTexts, defScope sLawTwoTexts, [], []⟩
def dLawBlank : He.DefD := ⟨("_law_blank", none), "_law_blank", "_law_blank", defArgs sLawBlank, defBody sLawBlank, defScope sLawBlank, [], []⟩
def dLawJunkLines : He.DefD := ⟨("_law_junk_lines", none), "_law_junk_lines", "_law_junk_lines", defArgs sLawJunkLines, defBody sLawJunkLines, defScope sLawJunkLines, [], []⟩
def dLawJunkSigns : He.DefD := ⟨("_law_junk_signs", none), "_law_junk_signs", "_law_junk_signs", defArgs sLawJunkSigns, defBody sLawJunkSigns, defScope sLawJunkSigns, [], []⟩
def dLawLeft : He.DefD := ⟨("_law_left", none), "_law_left", "_law_left", defArgs sLawLeft, defBody sLawLeft, defScope sLawLeft, [], []⟩
def dLawSpansRight : He.DefD := ⟨("_law_spans_right", none), "_law_spans_right", "_law_spans_right", defArgs sLawSpansRight, defBody sLawSpansRight, defScope sLawSpansRight, [], []⟩
def dLaw : He.DefD := ⟨("law", none), "law", "law", defArgs sLaw, defBody sLaw, defScope sLaw, [], []⟩
def fns0 : List He.DefD := [dRowOf, dWordBetween, dCodesBetween, dMInit, dMSetOne, dMSetOther, dMBegun, dMGrown, dMGoesOn, dMLongestMatch, dMBlocks, dMCodes, dMWhole, dMRatio, dIsBlankLine, dIsBlankSign, dToldApart, dDInit, dDPieces, dDReplaced, dDPartner, dDPaired, dSpansOf, dAlone, dSInit, dSPutAlone, dSLay, dSPutBoth, dPairsOf, dFreshSide]
def fns1 : List He.DefD := [dFreshRow, dShortened, dPairs, dIsChanged, dNextChanges, dLawDraws, dLawMixed, dLawTake, dLawPick, dLawText, dLawLine, dLawNearLine, dLawLines, dLawBentLines, dLawTwoTexts, dLawBlank, dLawJunkLines, dLawJunkSigns, dLawLeft, dLawSpansRight, dLaw]
def fns : List He.DefD := fns0 ++ fns1
def fas0 : List He.Fa := [.glo "row_of", .glo "word_between", .glo "codes_between", .glo "Matcher", .glo "is_blank_line", .glo "is_blank_sign", .glo "told_apart", .glo "Differ", .glo "spans_of", .glo "alone", .glo "Sheet", .glo "pairs_of", .glo "fresh_side", .glo "fresh_row", .glo "shortened", .glo "pairs", .glo "is_changed", .glo "next_changes", .glo "_law_draws", .glo "_law_mixed", .glo "_law_take", .glo "_law_pick", .glo "_law_text", .glo "_law_line", .glo "_law_near_line", .glo "_law_lines", .glo "_law_bent_lines", .glo "_law_two_texts", .glo "_law_blank", .glo "_law_junk_lines"]
def fas1 : List He.Fa := [.glo "_law_junk_signs", .glo "_law_left", .glo "_law_spans_right", .glo "NEAR", .int "LEAST_LONG" 200, .int "WINDOW" 10, .free "tuple", .free "enumerate", .free "len", .free "range", .free "sorted", .free "sum", .free "max", .free "min", .free "zip", .free "all", .free "list", .free "int", .cls "Matcher", .mkr "Matcher", .noat "Matcher" "is_junk", .noat "Matcher" "auto", .noat "Matcher" "first", .noat "Matcher" "second", .noat "Matcher" "found", .noat "Matcher" "junk", .noat "Matcher" "popular", .meth "Matcher" "set_one", .meth "Matcher" "set_other", .meth "Matcher" "begun"]
def fas2 : List He.Fa := [.meth "Matcher" "grown", .meth "Matcher" "goes_on", .meth "Matcher" "longest_match", .meth "Matcher" "blocks", .meth "Matcher" "codes", .meth "Matcher" "whole", .meth "Matcher" "ratio", .cls "Differ", .mkr "Differ", .noat "Differ" "line_junk", .noat "Differ" "sign_junk", .meth "Differ" "pieces", .meth "Differ" "replaced", .meth "Differ" "partner", .meth "Differ" "paired", .cls "Sheet", .mkr "Sheet", .noat "Sheet" "rows", .noat "Sheet" "spots", .noat "Sheet" "waiting", .meth "Sheet" "put_alone", .meth "Sheet" "lay", .meth "Sheet" "put_both"]
def fas : List He.Fa := fas0 ++ fas1 ++ fas2
def loose0 : List Str := ["_wall", "frozen", "SeamError", "BadCount", "is_integer", "is_count", "row_of", "word_between", "codes_between", "LEAST_LONG", "Matcher", "WINDOW", "NEAR", "is_blank_line", "is_blank_sign", "told_apart", "Differ", "spans_of", "alone", "Sheet", "pairs_of", "fresh_side", "fresh_row", "shortened", "pairs", "is_changed", "next_changes", "_law_draws", "_law_mixed", "_law_take"]
def loose1 : List Str := ["_law_pick", "_law_text", "_law_line", "_law_near_line", "_law_lines", "_law_bent_lines", "_law_two_texts", "_law_blank", "_law_junk_lines", "_law_junk_signs", "_law_left", "_law_spans_right"]
def loose : List Str := loose0 ++ loose1
end TwK

set_option Elab.async false
set_option linter.all false
set_option maxRecDepth 100000
set_option maxHeartbeats 0
namespace TwK
open PySem PySem.Spec PyProof.Rows L2
abbrev R : PySem.W.OpenRow := PySem.W.OpenLaw.row PySem.Challenge.rw_twinseam_k47_whole_spans_tell_the_same
def tfs : List He.Defn := [("_law_junk_lines", none), ("_law_junk_signs", none)]
def exK (K : PySem.W.Frag) : Bool := He.tupB K "NEAR" [.int 3, .int 4] && (!decide ((He.cT K ("_law_junk_lines", none)).2 = (He.cT K ("_law_junk_signs", none)).2) && (He.Fa.glo "law").ok K)
theorem exK_near {K : PySem.W.Frag} (h : exK K = true) : He.tupB K "NEAR" [.int 3, .int 4] = true := (Bool.and_eq_true_iff.mp h).1
theorem exK_law {K : PySem.W.Frag} (h : exK K = true) : (He.Fa.glo "law").ok K = true := (Bool.and_eq_true_iff.mp (Bool.and_eq_true_iff.mp h).2).2
theorem exK_ne {K : PySem.W.Frag} (h : exK K = true) : (He.cT K ("_law_junk_lines", none)).2 ≠ (He.cT K ("_law_junk_signs", none)).2 := fun e => by
  have q := (Bool.and_eq_true_iff.mp (Bool.and_eq_true_iff.mp h).2).1
  rw [decide_eq_true e] at q
  cases q
abbrev hk : PySem.W.Hook := He.hookX 5 fas fns [] tfs exK
def ob (s : PySem.W.SharedT) : He.AlX := He.obsX 5 fas fns [] tfs exK (HandSHeadRun.getT s)
theorem ob_eq (s : PySem.W.SharedT) : ob s = hk.obs s.abs := He.obsX_eq (HandSHeadRun.getT_eq s)
theorem run (w : World) : HandSHeadRun.RunEq R (PySem.W.view R.prog [49]) hk ob 6000 loose w := by
  intro os
  kernel_rfl
end TwK

set_option Elab.async false
set_option linter.all false
set_option maxRecDepth 100000
set_option maxHeartbeats 2000000
namespace TwK
open PySem PySem.Spec PyProof.Rows L2 SX
/-! ### a list held against the empty one -/
def rEqE (K : PySem.W.Frag) (neg : Bool) : R2 := fun x y H Q => ∃ a b xs, x = .ref a ∧ y = .ref b ∧ SqL K H a xs ∧ H b = some (.lst []) ∧ Q (.bl (if neg then !xs.isEmpty else xs.isEmpty)) H
section
variable {X : Cx}
theorem isEmpty_size {xs : List V} {us : List Value} (r : Vals xs us) : xs.isEmpty = (us.toArray.size == 0) := by
  cases r <;> simp
theorem op_eqE (hu : X.A.units < cLine) : OpR X (compareOp .Eq) (rEqE X.K false) := by
  intro pins s σ H x y v u Q I rx ry h
  obtain ⟨a, b, xs, rfl, rfl, ha, hb, q⟩ := h
  cases rx
  cases ry
  obtain ⟨us, r, pa, _⟩ := I.list ha
  obtain ⟨ws, r2, pb, _⟩ := I.list (SqL.of (K := X.K) hb)
  cases r2
  by_cases e : us.toArray.size = 0
  · refine SeqAt.eq_listAt (e := fun _ => true) pa.isList pb.isList e hu (fun j h1 h2 => absurd h2 (Nat.not_lt_zero _)) (fin_bl I q ?_)
    rw [isEmpty_size r, e]
    rfl
  · refine SeqAt.eq_list_lengthsAt pa.isList pb.isList ?_ hu (fin_bl I q ?_)
    · simpa using e
    · rw [isEmpty_size r]
      simpa using e
theorem op_neE (hu : X.A.units < cLine) : OpR X (compareOp .NotEq) (rEqE X.K true) := by
  intro pins s σ H x y v u Q I rx ry h
  obtain ⟨a, b, xs, rfl, rfl, ha, hb, q⟩ := h
  cases rx
  cases ry
  obtain ⟨us, r, pa, _⟩ := I.list ha
  obtain ⟨ws, r2, pb, _⟩ := I.list (SqL.of (K := X.K) hb)
  cases r2
  by_cases e : us.toArray.size = 0
  · refine SeqAt.RcNeAt.lists (e := fun _ => true) pa.isList pb.isList e hu (fun j h1 h2 => absurd h2 (Nat.not_lt_zero _)) _ _ _ _ (fin_bl I q ?_)
    show (if true then !xs.isEmpty else xs.isEmpty) = _
    rw [isEmpty_size r, e]
    rfl
  · refine SeqAt.RcNeAt.lists_lengths pa.isList pb.isList ?_ hu _ _ _ _ (fin_bl I q ?_)
    · simpa using e
    · show (if true then !xs.isEmpty else xs.isEmpty) = _
      rw [isEmpty_size r]
      simpa using e
/-! ### a text, so many times: none or once -/
def rMul01 : R2 := fun x y H Q => ∃ z i, x = .str z ∧ y = .int i ∧ z.length ≤ 1000 ∧ ((i = 0 ∧ Q (.str (S [])) H) ∨ (i = 1 ∧ Q (.str z) H))
theorem op_mul01 : OpR X (binaryOp .Mult) rMul01 := by
  intro pins s σ H x y v u Q I rx ry h
  obtain ⟨z, i, rfl, rfl, hz, q⟩ := h
  obtain ⟨t, rfl⟩ := rx
  obtain ⟨t', rfl⟩ := ry
  rcases q with ⟨e, q⟩ | ⟨e, q⟩
  · subst e
    refine SB.mul ⟨by decide, fun h => absurd (by decide) h, fun h => absurd (by decide) h⟩ fun t2 k => ?_
    exact ⟨.str (S []), H, I.tok _, ⟨t2, rfl⟩, q⟩
  · subst e
    refine SB.mul ⟨by decide, fun _ h => by simp at h, fun _ h => by simp at h⟩ fun t2 k => ?_
    have e : Txt.mul z 1 = z := by
      unfold Txt.mul
      rw [if_neg (by decide), if_pos (by simp)]
    rw [e]
    exact ⟨.str z, H, I.tok _, ⟨t2, rfl⟩, q⟩
/-! ### o[i] by values, for o[i] op= e -/
def rGetL (K : PySem.W.Frag) : V → V → Hp → VK → Prop := fun x y H Q => ∃ p xs, ∃ j : Nat, ∃ v, x = .ref p ∧ y = .int (j : Int) ∧ SqL K H p xs ∧ xs[j]? = some v ∧ Q v H
theorem get_list : PGet X (rGetL X.K) := by
  intro pins s σ H o i ov iv Q I r1 r2 h
  obtain ⟨p, xs, j, v, rfl, rfl, hp, hv, q⟩ := h
  cases r1
  obtain ⟨t, rfl⟩ := r2
  obtain ⟨us, r, pl, hz⟩ := I.list hp
  obtain ⟨u, hu, ru⟩ := r.get hv
  have hlt : j < xs.length := (List.getElem?_eq_some_iff.mp hv).1
  have hs : sizeLine = 16777216 := sizeLine_eq
  refine wpAny_getItem_list pl.isList (Int.natCast_nonneg _) (by omega) (x := u) ?_ ⟨v, H, I, ru, q⟩
  simpa using hu
/-! ### four in a chain: a <= b < c <= d, as a test -/
def tChain3 (r1 r2 r3 : R2) (ta tb tc td : TE) : TE := fun σ H Q => ta σ H fun x H1 => tb σ H1 fun y H2 => r1 x y H2 fun z H3 => ∃ k, z = .bl k ∧
  (if k = true then tc σ H3 fun y2 H4 => r2 y y2 H4 fun z2 H5 => ∃ k2, z2 = .bl k2 ∧ (if k2 = true then td σ H5 fun y3 H6 => r3 y2 y3 H6 Q else Q (.bl false) H5) else Q (.bl false) H3)
end
end TwK

set_option Elab.async false
set_option linter.all false
set_option maxRecDepth 100000
set_option maxHeartbeats 2000000
namespace TwK
open PySem PySem.Spec PyProof.Rows L2 SX
/-! ### what the head tells, by names (printed by gen_ctx.py) -/
structure TX (K : PySem.W.Frag) (mg : Str → Option Value) : Prop where
  d : He.SaysD fas fns K
  near : exK K = true
  gl : ∀ (i : Nat) (x : Str), fas[i]? = some (.glo x) → mg x = some (.ref (He.ga K x))
  fr : ∀ (i : Nat) (x : Str), fas[i]? = some (.free x) → mg x = none
  it : ∀ (i : Nat) (x : Str) (n : Int), fas[i]? = some (.int x n) → ∃ t, mg x = some (.int n t)
section
variable {K : PySem.W.Frag} {mg : Str → Option Value}

theorem TX.g_row_of (T : TX K mg) : mg "row_of" = some (.ref (He.ga K "row_of")) := T.gl 0 _ rfl
theorem TX.g_word_between (T : TX K mg) : mg "word_between" = some (.ref (He.ga K "word_between")) := T.gl 1 _ rfl
theorem TX.g_codes_between (T : TX K mg) : mg "codes_between" = some (.ref (He.ga K "codes_between")) := T.gl 2 _ rfl
theorem TX.g_Matcher (T : TX K mg) : mg "Matcher" = some (.ref (He.ga K "Matcher")) := T.gl 3 _ rfl
theorem TX.g_is_blank_line (T : TX K mg) : mg "is_blank_line" = some (.ref (He.ga K "is_blank_line")) := T.gl 4 _ rfl
theorem TX.g_is_blank_sign (T : TX K mg) : mg "is_blank_sign" = some (.ref (He.ga K "is_blank_sign")) := T.gl 5 _ rfl
theorem TX.g_told_apart (T : TX K mg) : mg "told_apart" = some (.ref (He.ga K "told_apart")) := T.gl 6 _ rfl
theorem TX.g_Differ (T : TX K mg) : mg "Differ" = some (.ref (He.ga K "Differ")) := T.gl 7 _ rfl
theorem TX.g_spans_of (T : TX K mg) : mg "spans_of" = some (.ref (He.ga K "spans_of")) := T.gl 8 _ rfl
theorem TX.g_alone (T : TX K mg) : mg "alone" = some (.ref (He.ga K "alone")) := T.gl 9 _ rfl
theorem TX.g_Sheet (T : TX K mg) : mg "Sheet" = some (.ref (He.ga K "Sheet")) := T.gl 10 _ rfl
theorem TX.g_pairs_of (T : TX K mg) : mg "pairs_of" = some (.ref (He.ga K "pairs_of")) := T.gl 11 _ rfl
theorem TX.g_fresh_side (T : TX K mg) : mg "fresh_side" = some (.ref (He.ga K "fresh_side")) := T.gl 12 _ rfl
theorem TX.g_fresh_row (T : TX K mg) : mg "fresh_row" = some (.ref (He.ga K "fresh_row")) := T.gl 13 _ rfl
theorem TX.g_shortened (T : TX K mg) : mg "shortened" = some (.ref (He.ga K "shortened")) := T.gl 14 _ rfl
theorem TX.g_pairs (T : TX K mg) : mg "pairs" = some (.ref (He.ga K "pairs")) := T.gl 15 _ rfl
theorem TX.g_is_changed (T : TX K mg) : mg "is_changed" = some (.ref (He.ga K "is_changed")) := T.gl 16 _ rfl
theorem TX.g_next_changes (T : TX K mg) : mg "next_changes" = some (.ref (He.ga K "next_changes")) := T.gl 17 _ rfl
theorem TX.g__law_draws (T : TX K mg) : mg "_law_draws" = some (.ref (He.ga K "_law_draws")) := T.gl 18 _ rfl
theorem TX.g__law_mixed (T : TX K mg) : mg "_law_mixed" = some (.ref (He.ga K "_law_mixed")) := T.gl 19 _ rfl
theorem TX.g__law_take (T : TX K mg) : mg "_law_take" = some (.ref (He.ga K "_law_take")) := T.gl 20 _ rfl
theorem TX.g__law_pick (T : TX K mg) : mg "_law_pick" = some (.ref (He.ga K "_law_pick")) := T.gl 21 _ rfl
theorem TX.g__law_text (T : TX K mg) : mg "_law_text" = some (.ref (He.ga K "_law_text")) := T.gl 22 _ rfl
theorem TX.g__law_line (T : TX K mg) : mg "_law_line" = some (.ref (He.ga K "_law_line")) := T.gl 23 _ rfl
theorem TX.g__law_near_line (T : TX K mg) : mg "_law_near_line" = some (.ref (He.ga K "_law_near_line")) := T.gl 24 _ rfl
theorem TX.g__law_lines (T : TX K mg) : mg "_law_lines" = some (.ref (He.ga K "_law_lines")) := T.gl 25 _ rfl
theorem TX.g__law_bent_lines (T : TX K mg) : mg "_law_bent_lines" = some (.ref (He.ga K "_law_bent_lines")) := T.gl 26 _ rfl
theorem TX.g__law_two_texts (T : TX K mg) : mg "_law_two_texts" = some (.ref (He.ga K "_law_two_texts")) := T.gl 27 _ rfl
theorem TX.g__law_blank (T : TX K mg) : mg "_law_blank" = some (.ref (He.ga K "_law_blank")) := T.gl 28 _ rfl
theorem TX.g__law_junk_lines (T : TX K mg) : mg "_law_junk_lines" = some (.ref (He.ga K "_law_junk_lines")) := T.gl 29 _ rfl
theorem TX.g__law_junk_signs (T : TX K mg) : mg "_law_junk_signs" = some (.ref (He.ga K "_law_junk_signs")) := T.gl 30 _ rfl
theorem TX.g__law_left (T : TX K mg) : mg "_law_left" = some (.ref (He.ga K "_law_left")) := T.gl 31 _ rfl
theorem TX.g__law_spans_right (T : TX K mg) : mg "_law_spans_right" = some (.ref (He.ga K "_law_spans_right")) := T.gl 32 _ rfl
theorem TX.g_NEAR (T : TX K mg) : mg "NEAR" = some (.ref (He.ga K "NEAR")) := T.gl 33 _ rfl
theorem TX.i_LEAST_LONG (T : TX K mg) : ∃ t, mg "LEAST_LONG" = some (.int 200 t) := T.it 34 _ _ rfl
theorem TX.i_WINDOW (T : TX K mg) : ∃ t, mg "WINDOW" = some (.int 10 t) := T.it 35 _ _ rfl
theorem TX.n_tuple (T : TX K mg) : mg "tuple" = none := T.fr 36 _ rfl
theorem TX.n_enumerate (T : TX K mg) : mg "enumerate" = none := T.fr 37 _ rfl
theorem TX.n_len (T : TX K mg) : mg "len" = none := T.fr 38 _ rfl
theorem TX.n_range (T : TX K mg) : mg "range" = none := T.fr 39 _ rfl
theorem TX.n_sorted (T : TX K mg) : mg "sorted" = none := T.fr 40 _ rfl
theorem TX.n_sum (T : TX K mg) : mg "sum" = none := T.fr 41 _ rfl
theorem TX.n_max (T : TX K mg) : mg "max" = none := T.fr 42 _ rfl
theorem TX.n_min (T : TX K mg) : mg "min" = none := T.fr 43 _ rfl
theorem TX.n_zip (T : TX K mg) : mg "zip" = none := T.fr 44 _ rfl
theorem TX.n_all (T : TX K mg) : mg "all" = none := T.fr 45 _ rfl
theorem TX.n_list (T : TX K mg) : mg "list" = none := T.fr 46 _ rfl
theorem TX.n_int (T : TX K mg) : mg "int" = none := T.fr 47 _ rfl
theorem TX.c_Matcher (T : TX K mg) : Cls K (He.ga K "Matcher") := He.cls_ok (T.d.fact 48 rfl)
theorem TX.mk_Matcher (T : TX K mg) : Mk K (He.ga K "Matcher") (He.ma K (He.ga K "Matcher") "__init__") := He.mkr_ok (T.d.fact 49 rfl)
theorem TX.no_Matcher_is_junk (T : TX K mg) : NoAttr K (He.ga K "Matcher") "is_junk" := He.noat_ok (T.d.fact 50 rfl)
theorem TX.no_Matcher_auto (T : TX K mg) : NoAttr K (He.ga K "Matcher") "auto" := He.noat_ok (T.d.fact 51 rfl)
theorem TX.no_Matcher_first (T : TX K mg) : NoAttr K (He.ga K "Matcher") "first" := He.noat_ok (T.d.fact 52 rfl)
theorem TX.no_Matcher_second (T : TX K mg) : NoAttr K (He.ga K "Matcher") "second" := He.noat_ok (T.d.fact 53 rfl)
theorem TX.no_Matcher_found (T : TX K mg) : NoAttr K (He.ga K "Matcher") "found" := He.noat_ok (T.d.fact 54 rfl)
theorem TX.no_Matcher_junk (T : TX K mg) : NoAttr K (He.ga K "Matcher") "junk" := He.noat_ok (T.d.fact 55 rfl)
theorem TX.no_Matcher_popular (T : TX K mg) : NoAttr K (He.ga K "Matcher") "popular" := He.noat_ok (T.d.fact 56 rfl)
theorem TX.me_Matcher_set_one (T : TX K mg) : Meth K (He.ga K "Matcher") "set_one" (He.ma K (He.ga K "Matcher") "set_one") := He.meth_ok (T.d.fact 57 rfl)
theorem TX.me_Matcher_set_other (T : TX K mg) : Meth K (He.ga K "Matcher") "set_other" (He.ma K (He.ga K "Matcher") "set_other") := He.meth_ok (T.d.fact 58 rfl)
theorem TX.me_Matcher_begun (T : TX K mg) : Meth K (He.ga K "Matcher") "begun" (He.ma K (He.ga K "Matcher") "begun") := He.meth_ok (T.d.fact 59 rfl)
theorem TX.me_Matcher_grown (T : TX K mg) : Meth K (He.ga K "Matcher") "grown" (He.ma K (He.ga K "Matcher") "grown") := He.meth_ok (T.d.fact 60 rfl)
theorem TX.me_Matcher_goes_on (T : TX K mg) : Meth K (He.ga K "Matcher") "goes_on" (He.ma K (He.ga K "Matcher") "goes_on") := He.meth_ok (T.d.fact 61 rfl)
theorem TX.me_Matcher_longest_match (T : TX K mg) : Meth K (He.ga K "Matcher") "longest_match" (He.ma K (He.ga K "Matcher") "longest_match") := He.meth_ok (T.d.fact 62 rfl)
theorem TX.me_Matcher_blocks (T : TX K mg) : Meth K (He.ga K "Matcher") "blocks" (He.ma K (He.ga K "Matcher") "blocks") := He.meth_ok (T.d.fact 63 rfl)
theorem TX.me_Matcher_codes (T : TX K mg) : Meth K (He.ga K "Matcher") "codes" (He.ma K (He.ga K "Matcher") "codes") := He.meth_ok (T.d.fact 64 rfl)
theorem TX.me_Matcher_whole (T : TX K mg) : Meth K (He.ga K "Matcher") "whole" (He.ma K (He.ga K "Matcher") "whole") := He.meth_ok (T.d.fact 65 rfl)
theorem TX.me_Matcher_ratio (T : TX K mg) : Meth K (He.ga K "Matcher") "ratio" (He.ma K (He.ga K "Matcher") "ratio") := He.meth_ok (T.d.fact 66 rfl)
theorem TX.c_Differ (T : TX K mg) : Cls K (He.ga K "Differ") := He.cls_ok (T.d.fact 67 rfl)
theorem TX.mk_Differ (T : TX K mg) : Mk K (He.ga K "Differ") (He.ma K (He.ga K "Differ") "__init__") := He.mkr_ok (T.d.fact 68 rfl)
theorem TX.no_Differ_line_junk (T : TX K mg) : NoAttr K (He.ga K "Differ") "line_junk" := He.noat_ok (T.d.fact 69 rfl)
theorem TX.no_Differ_sign_junk (T : TX K mg) : NoAttr K (He.ga K "Differ") "sign_junk" := He.noat_ok (T.d.fact 70 rfl)
theorem TX.me_Differ_pieces (T : TX K mg) : Meth K (He.ga K "Differ") "pieces" (He.ma K (He.ga K "Differ") "pieces") := He.meth_ok (T.d.fact 71 rfl)
theorem TX.me_Differ_replaced (T : TX K mg) : Meth K (He.ga K "Differ") "replaced" (He.ma K (He.ga K "Differ") "replaced") := He.meth_ok (T.d.fact 72 rfl)
theorem TX.me_Differ_partner (T : TX K mg) : Meth K (He.ga K "Differ") "partner" (He.ma K (He.ga K "Differ") "partner") := He.meth_ok (T.d.fact 73 rfl)
theorem TX.me_Differ_paired (T : TX K mg) : Meth K (He.ga K "Differ") "paired" (He.ma K (He.ga K "Differ") "paired") := He.meth_ok (T.d.fact 74 rfl)
theorem TX.c_Sheet (T : TX K mg) : Cls K (He.ga K "Sheet") := He.cls_ok (T.d.fact 75 rfl)
theorem TX.mk_Sheet (T : TX K mg) : Mk K (He.ga K "Sheet") (He.ma K (He.ga K "Sheet") "__init__") := He.mkr_ok (T.d.fact 76 rfl)
theorem TX.no_Sheet_rows (T : TX K mg) : NoAttr K (He.ga K "Sheet") "rows" := He.noat_ok (T.d.fact 77 rfl)
theorem TX.no_Sheet_spots (T : TX K mg) : NoAttr K (He.ga K "Sheet") "spots" := He.noat_ok (T.d.fact 78 rfl)
theorem TX.no_Sheet_waiting (T : TX K mg) : NoAttr K (He.ga K "Sheet") "waiting" := He.noat_ok (T.d.fact 79 rfl)
theorem TX.me_Sheet_put_alone (T : TX K mg) : Meth K (He.ga K "Sheet") "put_alone" (He.ma K (He.ga K "Sheet") "put_alone") := He.meth_ok (T.d.fact 80 rfl)
theorem TX.me_Sheet_lay (T : TX K mg) : Meth K (He.ga K "Sheet") "lay" (He.ma K (He.ga K "Sheet") "lay") := He.meth_ok (T.d.fact 81 rfl)
theorem TX.me_Sheet_put_both (T : TX K mg) : Meth K (He.ga K "Sheet") "put_both" (He.ma K (He.ga K "Sheet") "put_both") := He.meth_ok (T.d.fact 82 rfl)
theorem TX.f_RowOf (T : TX K mg) : ∃ fd, FunD K "row_of" "row_of" (defArgs sRowOf) (defBody sRowOf) (defScope sRowOf) (dRowOf.dvs K) (dRowOf.kws K) (He.ga K "row_of") fd := T.d.def_ 0 rfl
theorem TX.f_WordBetween (T : TX K mg) : ∃ fd, FunD K "word_between" "word_between" (defArgs sWordBetween) (defBody sWordBetween) (defScope sWordBetween) (dWordBetween.dvs K) (dWordBetween.kws K) (He.ga K "word_between") fd := T.d.def_ 1 rfl
theorem TX.f_CodesBetween (T : TX K mg) : ∃ fd, FunD K "codes_between" "codes_between" (defArgs sCodesBetween) (defBody sCodesBetween) (defScope sCodesBetween) (dCodesBetween.dvs K) (dCodesBetween.kws K) (He.ga K "codes_between") fd := T.d.def_ 2 rfl
theorem TX.f_MInit (T : TX K mg) : ∃ fd, FunD K "__init__" "Matcher.__init__" (defArgs sMInit) (defBody sMInit) (defScope sMInit) (dMInit.dvs K) (dMInit.kws K) (He.ma K (He.ga K "Matcher") "__init__") fd := T.d.def_ 3 rfl
theorem TX.f_MSetOne (T : TX K mg) : ∃ fd, FunD K "set_one" "Matcher.set_one" (defArgs sMSetOne) (defBody sMSetOne) (defScope sMSetOne) (dMSetOne.dvs K) (dMSetOne.kws K) (He.ma K (He.ga K "Matcher") "set_one") fd := T.d.def_ 4 rfl
theorem TX.f_MSetOther (T : TX K mg) : ∃ fd, FunD K "set_other" "Matcher.set_other" (defArgs sMSetOther) (defBody sMSetOther) (defScope sMSetOther) (dMSetOther.dvs K) (dMSetOther.kws K) (He.ma K (He.ga K "Matcher") "set_other") fd := T.d.def_ 5 rfl
theorem TX.f_MBegun (T : TX K mg) : ∃ fd, FunD K "begun" "Matcher.begun" (defArgs sMBegun) (defBody sMBegun) (defScope sMBegun) (dMBegun.dvs K) (dMBegun.kws K) (He.ma K (He.ga K "Matcher") "begun") fd := T.d.def_ 6 rfl
theorem TX.f_MGrown (T : TX K mg) : ∃ fd, FunD K "grown" "Matcher.grown" (defArgs sMGrown) (defBody sMGrown) (defScope sMGrown) (dMGrown.dvs K) (dMGrown.kws K) (He.ma K (He.ga K "Matcher") "grown") fd := T.d.def_ 7 rfl
theorem TX.f_MGoesOn (T : TX K mg) : ∃ fd, FunD K "goes_on" "Matcher.goes_on" (defArgs sMGoesOn) (defBody sMGoesOn) (defScope sMGoesOn) (dMGoesOn.dvs K) (dMGoesOn.kws K) (He.ma K (He.ga K "Matcher") "goes_on") fd := T.d.def_ 8 rfl
theorem TX.f_MLongestMatch (T : TX K mg) : ∃ fd, FunD K "longest_match" "Matcher.longest_match" (defArgs sMLongestMatch) (defBody sMLongestMatch) (defScope sMLongestMatch) (dMLongestMatch.dvs K) (dMLongestMatch.kws K) (He.ma K (He.ga K "Matcher") "longest_match") fd := T.d.def_ 9 rfl
theorem TX.f_MBlocks (T : TX K mg) : ∃ fd, FunD K "blocks" "Matcher.blocks" (defArgs sMBlocks) (defBody sMBlocks) (defScope sMBlocks) (dMBlocks.dvs K) (dMBlocks.kws K) (He.ma K (He.ga K "Matcher") "blocks") fd := T.d.def_ 10 rfl
theorem TX.f_MCodes (T : TX K mg) : ∃ fd, FunD K "codes" "Matcher.codes" (defArgs sMCodes) (defBody sMCodes) (defScope sMCodes) (dMCodes.dvs K) (dMCodes.kws K) (He.ma K (He.ga K "Matcher") "codes") fd := T.d.def_ 11 rfl
theorem TX.f_MWhole (T : TX K mg) : ∃ fd, FunD K "whole" "Matcher.whole" (defArgs sMWhole) (defBody sMWhole) (defScope sMWhole) (dMWhole.dvs K) (dMWhole.kws K) (He.ma K (He.ga K "Matcher") "whole") fd := T.d.def_ 12 rfl
theorem TX.f_MRatio (T : TX K mg) : ∃ fd, FunD K "ratio" "Matcher.ratio" (defArgs sMRatio) (defBody sMRatio) (defScope sMRatio) (dMRatio.dvs K) (dMRatio.kws K) (He.ma K (He.ga K "Matcher") "ratio") fd := T.d.def_ 13 rfl
theorem TX.f_IsBlankLine (T : TX K mg) : ∃ fd, FunD K "is_blank_line" "is_blank_line" (defArgs sIsBlankLine) (defBody sIsBlankLine) (defScope sIsBlankLine) (dIsBlankLine.dvs K) (dIsBlankLine.kws K) (He.ga K "is_blank_line") fd := T.d.def_ 14 rfl
theorem TX.f_IsBlankSign (T : TX K mg) : ∃ fd, FunD K "is_blank_sign" "is_blank_sign" (defArgs sIsBlankSign) (defBody sIsBlankSign) (defScope sIsBlankSign) (dIsBlankSign.dvs K) (dIsBlankSign.kws K) (He.ga K "is_blank_sign") fd := T.d.def_ 15 rfl
theorem TX.f_ToldApart (T : TX K mg) : ∃ fd, FunD K "told_apart" "told_apart" (defArgs sToldApart) (defBody sToldApart) (defScope sToldApart) (dToldApart.dvs K) (dToldApart.kws K) (He.ga K "told_apart") fd := T.d.def_ 16 rfl
theorem TX.f_DInit (T : TX K mg) : ∃ fd, FunD K "__init__" "Differ.__init__" (defArgs sDInit) (defBody sDInit) (defScope sDInit) (dDInit.dvs K) (dDInit.kws K) (He.ma K (He.ga K "Differ") "__init__") fd := T.d.def_ 17 rfl
theorem TX.f_DPieces (T : TX K mg) : ∃ fd, FunD K "pieces" "Differ.pieces" (defArgs sDPieces) (defBody sDPieces) (defScope sDPieces) (dDPieces.dvs K) (dDPieces.kws K) (He.ma K (He.ga K "Differ") "pieces") fd := T.d.def_ 18 rfl
theorem TX.f_DReplaced (T : TX K mg) : ∃ fd, FunD K "replaced" "Differ.replaced" (defArgs sDReplaced) (defBody sDReplaced) (defScope sDReplaced) (dDReplaced.dvs K) (dDReplaced.kws K) (He.ma K (He.ga K "Differ") "replaced") fd := T.d.def_ 19 rfl
theorem TX.f_DPartner (T : TX K mg) : ∃ fd, FunD K "partner" "Differ.partner" (defArgs sDPartner) (defBody sDPartner) (defScope sDPartner) (dDPartner.dvs K) (dDPartner.kws K) (He.ma K (He.ga K "Differ") "partner") fd := T.d.def_ 20 rfl
theorem TX.f_DPaired (T : TX K mg) : ∃ fd, FunD K "paired" "Differ.paired" (defArgs sDPaired) (defBody sDPaired) (defScope sDPaired) (dDPaired.dvs K) (dDPaired.kws K) (He.ma K (He.ga K "Differ") "paired") fd := T.d.def_ 21 rfl
theorem TX.f_SpansOf (T : TX K mg) : ∃ fd, FunD K "spans_of" "spans_of" (defArgs sSpansOf) (defBody sSpansOf) (defScope sSpansOf) (dSpansOf.dvs K) (dSpansOf.kws K) (He.ga K "spans_of") fd := T.d.def_ 22 rfl
theorem TX.f_Alone (T : TX K mg) : ∃ fd, FunD K "alone" "alone" (defArgs sAlone) (defBody sAlone) (defScope sAlone) (dAlone.dvs K) (dAlone.kws K) (He.ga K "alone") fd := T.d.def_ 23 rfl
theorem TX.f_SInit (T : TX K mg) : ∃ fd, FunD K "__init__" "Sheet.__init__" (defArgs sSInit) (defBody sSInit) (defScope sSInit) (dSInit.dvs K) (dSInit.kws K) (He.ma K (He.ga K "Sheet") "__init__") fd := T.d.def_ 24 rfl
theorem TX.f_SPutAlone (T : TX K mg) : ∃ fd, FunD K "put_alone" "Sheet.put_alone" (defArgs sSPutAlone) (defBody sSPutAlone) (defScope sSPutAlone) (dSPutAlone.dvs K) (dSPutAlone.kws K) (He.ma K (He.ga K "Sheet") "put_alone") fd := T.d.def_ 25 rfl
theorem TX.f_SLay (T : TX K mg) : ∃ fd, FunD K "lay" "Sheet.lay" (defArgs sSLay) (defBody sSLay) (defScope sSLay) (dSLay.dvs K) (dSLay.kws K) (He.ma K (He.ga K "Sheet") "lay") fd := T.d.def_ 26 rfl
theorem TX.f_SPutBoth (T : TX K mg) : ∃ fd, FunD K "put_both" "Sheet.put_both" (defArgs sSPutBoth) (defBody sSPutBoth) (defScope sSPutBoth) (dSPutBoth.dvs K) (dSPutBoth.kws K) (He.ma K (He.ga K "Sheet") "put_both") fd := T.d.def_ 27 rfl
theorem TX.f_PairsOf (T : TX K mg) : ∃ fd, FunD K "pairs_of" "pairs_of" (defArgs sPairsOf) (defBody sPairsOf) (defScope sPairsOf) (dPairsOf.dvs K) (dPairsOf.kws K) (He.ga K "pairs_of") fd := T.d.def_ 28 rfl
theorem TX.f_FreshSide (T : TX K mg) : ∃ fd, FunD K "fresh_side" "fresh_side" (defArgs sFreshSide) (defBody sFreshSide) (defScope sFreshSide) (dFreshSide.dvs K) (dFreshSide.kws K) (He.ga K "fresh_side") fd := T.d.def_ 29 rfl
theorem TX.f_FreshRow (T : TX K mg) : ∃ fd, FunD K "fresh_row" "fresh_row" (defArgs sFreshRow) (defBody sFreshRow) (defScope sFreshRow) (dFreshRow.dvs K) (dFreshRow.kws K) (He.ga K "fresh_row") fd := T.d.def_ 30 rfl
theorem TX.f_Shortened (T : TX K mg) : ∃ fd, FunD K "shortened" "shortened" (defArgs sShortened) (defBody sShortened) (defScope sShortened) (dShortened.dvs K) (dShortened.kws K) (He.ga K "shortened") fd := T.d.def_ 31 rfl
theorem TX.f_Pairs (T : TX K mg) : ∃ fd, FunD K "pairs" "pairs" (defArgs sPairs) (defBody sPairs) (defScope sPairs) (dPairs.dvs K) (dPairs.kws K) (He.ga K "pairs") fd := T.d.def_ 32 rfl
theorem TX.f_IsChanged (T : TX K mg) : ∃ fd, FunD K "is_changed" "is_changed" (defArgs sIsChanged) (defBody sIsChanged) (defScope sIsChanged) (dIsChanged.dvs K) (dIsChanged.kws K) (He.ga K "is_changed") fd := T.d.def_ 33 rfl
theorem TX.f_NextChanges (T : TX K mg) : ∃ fd, FunD K "next_changes" "next_changes" (defArgs sNextChanges) (defBody sNextChanges) (defScope sNextChanges) (dNextChanges.dvs K) (dNextChanges.kws K) (He.ga K "next_changes") fd := T.d.def_ 34 rfl
theorem TX.f_LawDraws (T : TX K mg) : ∃ fd, FunD K "_law_draws" "_law_draws" (defArgs sLawDraws) (defBody sLawDraws) (defScope sLawDraws) (dLawDraws.dvs K) (dLawDraws.kws K) (He.ga K "_law_draws") fd := T.d.def_ 35 rfl
theorem TX.f_LawMixed (T : TX K mg) : ∃ fd, FunD K "_law_mixed" "_law_mixed" (defArgs sLawMixed) (defBody sLawMixed) (defScope sLawMixed) (dLawMixed.dvs K) (dLawMixed.kws K) (He.ga K "_law_mixed") fd := T.d.def_ 36 rfl
theorem TX.f_LawTake (T : TX K mg) : ∃ fd, FunD K "_law_take" "_law_take" (defArgs sLawTake) (defBody sLawTake) (defScope sLawTake) (dLawTake.dvs K) (dLawTake.kws K) (He.ga K "_law_take") fd := T.d.def_ 37 rfl
theorem TX.f_LawPick (T : TX K mg) : ∃ fd, FunD K "_law_pick" "_law_pick" (defArgs sLawPick) (defBody sLawPick) (defScope sLawPick) (dLawPick.dvs K) (dLawPick.kws K) (He.ga K "_law_pick") fd := T.d.def_ 38 rfl
theorem TX.f_LawText (T : TX K mg) : ∃ fd, FunD K "_law_text" "_law_text" (defArgs sLawText) (defBody sLawText) (defScope sLawText) (dLawText.dvs K) (dLawText.kws K) (He.ga K "_law_text") fd := T.d.def_ 39 rfl
theorem TX.f_LawLine (T : TX K mg) : ∃ fd, FunD K "_law_line" "_law_line" (defArgs sLawLine) (defBody sLawLine) (defScope sLawLine) (dLawLine.dvs K) (dLawLine.kws K) (He.ga K "_law_line") fd := T.d.def_ 40 rfl
theorem TX.f_LawNearLine (T : TX K mg) : ∃ fd, FunD K "_law_near_line" "_law_near_line" (defArgs sLawNearLine) (defBody sLawNearLine) (defScope sLawNearLine) (dLawNearLine.dvs K) (dLawNearLine.kws K) (He.ga K "_law_near_line") fd := T.d.def_ 41 rfl
theorem TX.f_LawLines (T : TX K mg) : ∃ fd, FunD K "_law_lines" "_law_lines" (defArgs sLawLines) (defBody sLawLines) (defScope sLawLines) (dLawLines.dvs K) (dLawLines.kws K) (He.ga K "_law_lines") fd := T.d.def_ 42 rfl
theorem TX.f_LawBentLines (T : TX K mg) : ∃ fd, FunD K "_law_bent_lines" "_law_bent_lines" (defArgs sLawBentLines) (defBody sLawBentLines) (defScope sLawBentLines) (dLawBentLines.dvs K) (dLawBentLines.kws K) (He.ga K "_law_bent_lines") fd := T.d.def_ 43 rfl
theorem TX.f_LawTwoTexts (T : TX K mg) : ∃ fd, FunD K "_law_two_texts" "_law_two_texts" (defArgs sLawTwoTexts) (defBody sLawTwoTexts) (defScope sLawTwoTexts) (dLawTwoTexts.dvs K) (dLawTwoTexts.kws K) (He.ga K "_law_two_texts") fd := T.d.def_ 44 rfl
theorem TX.f_LawBlank (T : TX K mg) : ∃ fd, FunD K "_law_blank" "_law_blank" (defArgs sLawBlank) (defBody sLawBlank) (defScope sLawBlank) (dLawBlank.dvs K) (dLawBlank.kws K) (He.ga K "_law_blank") fd := T.d.def_ 45 rfl
theorem TX.f_LawJunkLines (T : TX K mg) : ∃ fd, FunD K "_law_junk_lines" "_law_junk_lines" (defArgs sLawJunkLines) (defBody sLawJunkLines) (defScope sLawJunkLines) (dLawJunkLines.dvs K) (dLawJunkLines.kws K) (He.ga K "_law_junk_lines") fd := T.d.def_ 46 rfl
theorem TX.f_LawJunkSigns (T : TX K mg) : ∃ fd, FunD K "_law_junk_signs" "_law_junk_signs" (defArgs sLawJunkSigns) (defBody sLawJunkSigns) (defScope sLawJunkSigns) (dLawJunkSigns.dvs K) (dLawJunkSigns.kws K) (He.ga K "_law_junk_signs") fd := T.d.def_ 47 rfl
theorem TX.f_LawLeft (T : TX K mg) : ∃ fd, FunD K "_law_left" "_law_left" (defArgs sLawLeft) (defBody sLawLeft) (defScope sLawLeft) (dLawLeft.dvs K) (dLawLeft.kws K) (He.ga K "_law_left") fd := T.d.def_ 48 rfl
theorem TX.f_LawSpansRight (T : TX K mg) : ∃ fd, FunD K "_law_spans_right" "_law_spans_right" (defArgs sLawSpansRight) (defBody sLawSpansRight) (defScope sLawSpansRight) (dLawSpansRight.dvs K) (dLawSpansRight.kws K) (He.ga K "_law_spans_right") fd := T.d.def_ 49 rfl
theorem TX.f_Law (T : TX K mg) : ∃ fd, FunD K "law" "law" (defArgs sLaw) (defBody sLaw) (defScope sLaw) (dLaw.dvs K) (dLaw.kws K) (He.ga K "law") fd := T.d.def_ 50 rfl
end
end TwK

set_option Elab.async false
set_option linter.all false
set_option maxRecDepth 100000
set_option maxHeartbeats 2000000
namespace TwK
open PySem PySem.Spec PyProof.Rows L2 SX
/-! ### what is new, what is kept -/
/-- the tracked things that H0 did not know, without those at L -/
def Own (H0 : Hp) (L : List Addr) (H : Hp) : Hp := fun a => if a ∈ L then none else match H0 a with
  | none => H a
  | some _ => none
abbrev New (H0 H : Hp) : Hp := Own H0 [] H
abbrev none0 : Hp := fun _ => none
abbrev Sub (H : Hp) (L : List Addr) : Hp := Own none0 L H
theorem own_iff {H0 H : Hp} {L : List Addr} {a : Addr} {o : HO} : Own H0 L H a = some o ↔ a ∉ L ∧ H0 a = none ∧ H a = some o := by
  unfold Own
  by_cases h : a ∈ L
  · rw [if_pos h]
    exact ⟨fun z => (nomatch z), fun z => absurd h z.1⟩
  · rw [if_neg h]
    cases e : H0 a with
    | none => exact ⟨fun z => ⟨h, rfl, z⟩, fun z => z.2.2⟩
    | some u => exact ⟨fun z => (nomatch z), fun z => nomatch z.2.1⟩
theorem own_same {H0 H : Hp} {L : List Addr} : Same (Own H0 L H) H := fun b o e => (own_iff.mp e).2.2
theorem own_none {H0 H : Hp} {L : List Addr} {a : Addr} (h : H a = none) : Own H0 L H a = none := by
  cases e : Own H0 L H a with
  | none => rfl
  | some o => rw [(own_iff.mp e).2.2] at h; cases h
theorem own_in {H0 H : Hp} {L : List Addr} {p : Addr} {o : HO} (h : p ∈ L) : Own H0 L (upd H p o) = Own H0 L H := by
  funext b
  by_cases hb : b = p
  · subst hb
    unfold Own
    rw [if_pos h, if_pos h]
  · unfold Own
    rw [upd_ne hb]
theorem own_new {H0 H : Hp} {L : List Addr} {p : Addr} {o : HO} (h : H p = none) : Same (Own H0 L H) (Own H0 L (upd H p o)) := fun b u e => by
  obtain ⟨e1, e2, e3⟩ := own_iff.mp e
  exact own_iff.mpr ⟨e1, e2, by rw [upd_ne (ne_of_none e3 h)]; exact e3⟩
theorem own_at {H0 H : Hp} {L : List Addr} {p : Addr} {o : HO} (h0 : H0 p = none) (hL : p ∉ L) : Own H0 L (upd H p o) p = some o := own_iff.mpr ⟨hL, h0, upd_same⟩
theorem own_call {H0 H H' : Hp} {L : List Addr} (h : Same H H') : Same (Own H0 L H) (Own H0 L H') := fun b u e => by
  obtain ⟨e1, e2, e3⟩ := own_iff.mp e
  exact own_iff.mpr ⟨e1, e2, h _ _ e3⟩
/-- what a call made is ours -/
theorem own_made {H0 H H' : Hp} {L : List Addr} (h : Same H0 H) (hL : ∀ b ∈ L, ∃ o, H b = some o) : Same (New H H') (Own H0 L H') := fun b u e => by
  obtain ⟨_, e2, e3⟩ := own_iff.mp e
  refine own_iff.mpr ⟨fun z => ?_, h.free e2, e3⟩
  obtain ⟨o, q⟩ := hL b z
  rw [q] at e2
  cases e2
theorem own_drop {H0 H : Hp} {L L' : List Addr} (h : ∀ b ∈ L', b ∈ L) : Same (Own H0 L H) (Own H0 L' H) := fun b u e => by
  obtain ⟨e1, e2, e3⟩ := own_iff.mp e
  exact own_iff.mpr ⟨fun z => e1 (h b z), e2, e3⟩
theorem own_add {H0 H : Hp} {L : List Addr} {p : Addr} {o : HO} (h : H p = none) : Same (Own H0 L H) (Own H0 (p :: L) (upd H p o)) := fun b u e => by
  obtain ⟨e1, e2, e3⟩ := own_iff.mp e
  have n := ne_of_none e3 h
  exact own_iff.mpr ⟨fun z => (List.mem_cons.mp z).elim n e1, e2, by rw [upd_ne n]; exact e3⟩
theorem same_new {H : Hp} {p : Addr} {o : HO} (h : H p = none) : Same H (upd H p o) := fun b u e => by rw [upd_ne (ne_of_none e h)]; exact e
theorem same_put {H H' : Hp} {p : Addr} {o : HO} (h : H p = none) (s : Same H H') : Same H (upd H' p o) := fun b u e => by rw [upd_ne (ne_of_none e h)]; exact s _ _ e
theorem new_trans {H0 H1 H2 : Hp} (h : Same H0 H1) : Same (New H1 H2) (New H0 H2) := own_made h (fun b z => nomatch z)
/-- a list that grows: at f, not known to H0; the rest of H0 is kept -/
structure Bld (H0 H : Hp) (f : Addr) (vs : List V) : Prop where
  same : Same H0 H
  nf : H0 f = none
  at_ : H f = some (.lst vs)
section
variable {H0 H H' : Hp} {f p : Addr} {vs vs' : List V} {o : HO}
theorem Bld.start (h : Same H0 H) (hf : H f = none) : Bld H0 (upd H f (.lst [])) f [] := ⟨h.trans (same_new hf), h.free hf, upd_same⟩
theorem Bld.start' (h : Same H0 H) (hf : H f = none) : Bld H0 (upd H f (.lst vs)) f vs := ⟨h.trans (same_new hf), h.free hf, upd_same⟩
theorem Bld.new (b : Bld H0 H f vs) (hp : H p = none) : Bld H0 (upd H p o) f vs := ⟨b.same.trans (same_new hp), b.nf, by rw [upd_ne (ne_of_none b.at_ hp)]; exact b.at_⟩
theorem Bld.push (b : Bld H0 H f vs) : Bld H0 (upd H f (.lst vs')) f vs' := ⟨fun a u e => by rw [upd_ne (ne_of_none e b.nf)]; exact b.same a u e, b.nf, upd_same⟩
theorem Bld.call (b : Bld H0 H f vs) (h : Same H H') : Bld H0 H' f vs := ⟨b.same.trans h, b.nf, h _ _ b.at_⟩
theorem Bld.push_own (b : Bld H0 H f vs) : Own H0 [f] (upd H f (.lst vs')) = Own H0 [f] H := own_in (List.mem_singleton.mpr rfl)
theorem Bld.at_new (b : Bld H0 H f vs) (hp : H p = none) : Own H0 [f] (upd H p o) p = some o := own_at (b.same.free hp) fun z => (ne_of_none b.at_ hp) (List.mem_singleton.mp z).symm
theorem Bld.made (b : Bld H0 H f vs) : Same (New H H') (Own H0 [f] H') := own_made b.same fun a z => by
  rw [List.mem_singleton.mp z]
  exact ⟨_, b.at_⟩
theorem Bld.done (b : Bld H0 H f vs) : New H0 H f = some (.lst vs) := own_iff.mpr ⟨by simp, b.nf, b.at_⟩
theorem own_one : Same (Own H0 [f] H) (New H0 H) := own_drop (fun b z => nomatch z)
end
/-! ### lists of things that the heap holds -/
/-- v names a tuple that tells c -/
def TupIs {α : Type} (Z : Hp) (g : α → List V) (v : V) (c : α) : Prop := ∃ a, v = .ref a ∧ Z a = some (.tup (g c))
theorem TupIs.mono {α : Type} {Z Z' : Hp} {g : α → List V} {v : V} {c : α} (h : TupIs Z g v c) (s : Same Z Z') : TupIs Z' g v c := by
  obtain ⟨a, e, h⟩ := h
  exact ⟨a, e, s _ _ h⟩
theorem tups_mono {α : Type} {Z Z' : Hp} {g : α → List V} {vs : List V} {cs : List α} (h : Paired (TupIs Z g) vs cs) (s : Same Z Z') : Paired (TupIs Z' g) vs cs := Paired.mono (fun _ _ q => q.mono s) h
/-- p is a list of such -/
def TupsAt {α : Type} (Z : Hp) (g : α → List V) (p : Addr) (cs : List α) : Prop := ∃ vs, Z p = some (.lst vs) ∧ Paired (TupIs Z g) vs cs
theorem TupsAt.mono {α : Type} {Z Z' : Hp} {g : α → List V} {p : Addr} {cs : List α} (h : TupsAt Z g p cs) (s : Same Z Z') : TupsAt Z' g p cs := by
  obtain ⟨vs, h1, h2⟩ := h
  exact ⟨vs, s _ _ h1, tups_mono h2 s⟩
theorem iteD {p A B : Prop} [Decidable p] (h1 : p → A) (h2 : ¬ p → B) : if decide p = true then A else B := by
  by_cases h : p
  · rw [decide_eq_true h]
    exact iteT (h1 h)
  · rw [decide_eq_false h]
    exact iteF (h2 h)
theorem iteNd {p A B : Prop} [Decidable p] (h1 : ¬ p → A) (h2 : p → B) : if (!decide p) = true then A else B := by
  by_cases h : p
  · rw [decide_eq_true h]
    exact iteF (h2 h)
  · rw [decide_eq_false h]
    exact iteT (h1 h)
theorem iteB {b : Bool} {A B : Prop} (h1 : b = true → A) (h2 : b = false → B) : if b = true then A else B := by
  cases b with
  | true => exact iteT (h1 rfl)
  | false => exact iteF (h2 rfl)
theorem Bld.pushT {α : Type} {g : α → List V} {cs : List α} {c : α} {H0 H : Hp} {f p : Addr} {gs : List V} (b : Bld H0 H f gs) (hp : H p = none) (hP : Paired (TupIs (Own H0 [f] H) g) gs cs) :
    Bld H0 (upd (upd H p (.tup (g c))) f (.lst (gs ++ [.ref p]))) f (gs ++ [.ref p]) ∧ Paired (TupIs (Own H0 [f] (upd (upd H p (.tup (g c))) f (.lst (gs ++ [.ref p])))) g) (gs ++ [.ref p]) (cs ++ [c]) := by
  refine ⟨(b.new hp).push, ?_⟩
  rw [(b.new hp).push_own]
  exact Paired.snoc (tups_mono hP (own_new hp)) ⟨p, rfl, b.at_new hp⟩
section
variable {α β : Type} {F : α → β → Prop}
theorem Paired.at_ : ∀ {l : List α} {m : List β} {i : Nat} {x : α}, Paired F l m → l[i]? = some x → ∃ y, m[i]? = some y ∧ F x y
  | _, _, _, _, .nil, e => by simp at e
  | _, _, 0, _, .cons h _, e => by simp at e; subst e; exact ⟨_, rfl, h⟩
  | _, _, i + 1, _, .cons _ t, e => by
    obtain ⟨y, h1, h2⟩ := Paired.at_ (i := i) t (by simpa using e)
    exact ⟨y, by simpa using h1, h2⟩
theorem Paired.at2 : ∀ {l : List α} {m : List β} {i : Nat} {y : β}, Paired F l m → m[i]? = some y → ∃ x, l[i]? = some x ∧ F x y
  | _, _, _, _, .nil, e => by simp at e
  | _, _, 0, _, .cons h _, e => by simp at e; subst e; exact ⟨_, rfl, h⟩
  | _, _, i + 1, _, .cons _ t, e => by
    obtain ⟨y, h1, h2⟩ := Paired.at2 (i := i) t (by simpa using e)
    exact ⟨y, by simpa using h1, h2⟩
theorem Paired.app : ∀ {l l' : List α} {m m' : List β}, Paired F l m → Paired F l' m' → Paired F (l ++ l') (m ++ m')
  | _, _, _, _, .nil, s => s
  | _, _, _, _, .cons r t, s => .cons r (Paired.app t s)
theorem Paired.one {x : α} {y : β} (h : F x y) : Paired F [x] [y] := .cons h .nil
end
theorem drop_at {α : Type} {l : List α} {i : Nat} {x : α} (h : l[i]? = some x) : l.drop i = x :: l.drop (i + 1) := by
  obtain ⟨h1, h2⟩ := List.getElem?_eq_some_iff.mp h
  rw [← h2]
  exact List.drop_eq_getElem_cons h1
theorem take_at {α : Type} {l : List α} {i : Nat} {x : α} (h : l[i]? = some x) : l.take (i + 1) = l.take i ++ [x] := by
  obtain ⟨h1, h2⟩ := List.getElem?_eq_some_iff.mp h
  rw [← h2]
  simp
theorem TupIs.updL {α : Type} {Z : Hp} {g : α → List V} {v : V} {c : α} {w : Addr} {xs : List V} {o : HO} (h : TupIs Z g v c) (hw : Z w = some (.lst xs)) : TupIs (upd Z w o) g v c := by
  obtain ⟨a, e, h⟩ := h
  exact ⟨a, e, by rw [upd_ne (ne_of h hw (by intro z; cases z))]; exact h⟩
theorem tups_updL {α : Type} {Z : Hp} {g : α → List V} {vs : List V} {cs : List α} {w : Addr} {xs : List V} {o : HO} (h : Paired (TupIs Z g) vs cs) (hw : Z w = some (.lst xs)) : Paired (TupIs (upd Z w o) g) vs cs := Paired.mono (fun _ _ q => q.updL hw) h
theorem tups_new {α : Type} {Z : Hp} {g : α → List V} {vs : List V} {cs : List α} {p : Addr} {o : HO} (h : Paired (TupIs Z g) vs cs) (hp : Z p = none) : Paired (TupIs (upd Z p o) g) vs cs := tups_mono h (same_new hp)
theorem paired_perm {α β : Type} {F : α → β → Prop} {l l' : List α} (hp : l'.Perm l) : ∀ {m : List β}, Paired F l m → ∃ m', Paired F l' m' ∧ m'.Perm m := by
  induction hp with
  | nil => exact fun h => ⟨_, h, .refl _⟩
  | cons x _ ih =>
    intro m h
    cases h with
    | cons r t =>
      obtain ⟨m', h1, h2⟩ := ih t
      exact ⟨_ :: m', .cons r h1, h2.cons _⟩
  | swap x y l =>
    intro m h
    cases h with
    | cons r t =>
      cases t with
      | cons r2 t2 => exact ⟨_ :: _ :: _, .cons r2 (.cons r t2), List.Perm.swap ..⟩
  | trans _ _ ih1 ih2 =>
    intro m h
    obtain ⟨m1, h1, p1⟩ := ih2 h
    obtain ⟨m2, h2, p2⟩ := ih1 h1
    exact ⟨m2, h2, p2.trans p1⟩
theorem paired_snoc {α β : Type} {F : α → β → Prop} : ∀ {l : List α} {x : α} {m : List β}, Paired F (l ++ [x]) m → ∃ m0 y, m = m0 ++ [y] ∧ Paired F l m0 ∧ F x y
  | [], _, _, .cons r .nil => ⟨[], _, rfl, .nil, r⟩
  | a :: l, x, _, .cons r t => by
    obtain ⟨m0, y, e, h1, h2⟩ := paired_snoc (l := l) t
    exact ⟨_ :: m0, y, by rw [e]; rfl, .cons r h1, h2⟩
theorem nil_or_snoc {α : Type} (l : List α) : l = [] ∨ ∃ L b, l = L ++ [b] := by
  rcases List.eq_nil_or_concat l with h | ⟨L, b, h⟩
  · exact .inl h
  · exact .inr ⟨L, b, by rw [h, List.concat_eq_append]⟩
theorem paired_mem {α β : Type} {F : α → β → Prop} : ∀ {l : List α} {m : List β}, Paired F l m → ∀ x ∈ l, ∃ y ∈ m, F x y
  | _, _, .nil, x, h => nomatch h
  | _, _, .cons r t, x, h => by
    rcases List.mem_cons.mp h with rfl | h
    · exact ⟨_, List.mem_cons_self .., r⟩
    · obtain ⟨y, h1, h2⟩ := paired_mem t x h
      exact ⟨y, List.mem_cons_of_mem _ h1, h2⟩
theorem pw_join {α β : Type} {F : α → β → Prop} {R : α → α → Prop} {S T : β → β → Prop} : ∀ {l : List α} {m : List β}, Paired F l m → l.Pairwise R → m.Pairwise S → (∀ x y b c, b ∈ m → c ∈ m → F x b → F y c → R x y → S b c → T b c) → m.Pairwise T
  | _, _, .nil, _, _, _ => .nil
  | _, _, .cons r t, hl, hm, h => by
    obtain ⟨l1, l2⟩ := List.pairwise_cons.mp hl
    obtain ⟨m1, m2⟩ := List.pairwise_cons.mp hm
    refine List.pairwise_cons.mpr ⟨fun c hc => ?_, pw_join t l2 m2 fun x y b c hb hc => h x y b c (List.mem_cons_of_mem _ hb) (List.mem_cons_of_mem _ hc)⟩
    obtain ⟨i, hi⟩ := List.mem_iff_getElem?.mp hc
    obtain ⟨y, hy, fy⟩ := Paired.at2 t hi
    exact h _ y _ c (List.mem_cons_self ..) (List.mem_cons_of_mem _ hc) r fy (l1 y (List.mem_of_getElem? hy)) (m1 c hc)
/-! ### defs and methods without defaults -/
section
variable {P : Program} {w : World} {K : PySem.W.Frag} {mg : Str → Option Value} {base : Heap}
theorem calN {x : Str} {st : Stmt} {N ps : List Str} {k : Nat} {sp : Sp} (F : ∃ fd, FunD K x x (defArgs st) (defBody st) (defScope st) [] [] (He.ga K x) fd) (hm : mg x = some (.ref (He.ga K x))) (S : FnScope N ps (defScope st))
    (hb : ∀ (kV doc pm : Value) (an : Option Addr) (cdv ct : Value) (us : List Value), us.length = ps.length → bindArgs (PySem.W.fnOf x x (defArgs st) (defBody st) (defScope st) .none kV doc pm an cdv ct) ⟨us, []⟩ = pure (ps.zip us))
    (len : ∀ vs H Q E, sp vs H Q E → vs.length = ps.length)
    (hbody : ∀ (cdv : Value) (A : Around) (outer : List Env) (s : Shared) (H : Hp) (vs : List V) (Q : VK) (E : XK), Room k (A.deeper (envOfC x (defScope st) s.heap.objs.size (He.ga K x) cdv)) → sp vs H Q E →
      ∃ t, PSs (cxOf C8.CX0 P w K mg base N x (defScope st) (He.ga K x) cdv A outer s H E).nox (defBody st) t ∧ t { nx := fun _ H' => Q .non H', rt := Q } (start N vs) H) : C8.Cal P w K mg base (k + 1) x sp [] := by
  obtain ⟨fd, F⟩ := F
  exact ⟨_, fd, ps, [], F.ok S len (fun cdv A outer s H vs Q E hr h => let ⟨t, h1, h2⟩ := hbody cdv A outer s H vs Q E hr h; ⟨t, h1.nox, h2⟩), hm, F.kp, F.bindsN hb, .nil⟩
theorem metN {C m q : Str} {st : Stmt} {N ps : List Str} {k : Nat} {sp : Sp} (F : ∃ fd, FunD K m q (defArgs st) (defBody st) (defScope st) [] [] (He.ma K (He.ga K C) m) fd) (c : Cls K (He.ga K C)) (me : Meth K (He.ga K C) m (He.ma K (He.ga K C) m)) (S : FnScope N ps (defScope st))
    (hb : ∀ (kV doc pm : Value) (an : Option Addr) (cdv ct : Value) (us : List Value), us.length = ps.length → bindArgs (PySem.W.fnOf m q (defArgs st) (defBody st) (defScope st) .none kV doc pm an cdv ct) ⟨us, []⟩ = pure (ps.zip us))
    (len : ∀ vs H Q E, sp vs H Q E → vs.length = ps.length)
    (hbody : ∀ (cdv : Value) (A : Around) (outer : List Env) (s : Shared) (H : Hp) (vs : List V) (Q : VK) (E : XK), Room k (A.deeper (envOfC q (defScope st) s.heap.objs.size (He.ma K (He.ga K C) m) cdv)) → sp vs H Q E →
      ∃ t, PSs (cxOf C8.CX0 P w K mg base N q (defScope st) (He.ma K (He.ga K C) m) cdv A outer s H E).nox (defBody st) t ∧ t { nx := fun _ H' => Q .non H', rt := Q } (start N vs) H) : C8.Met P w K mg base (k + 1) (He.ga K C) m sp [] := by
  obtain ⟨fd, F⟩ := F
  exact ⟨_, fd, ps, [], c, me, F.ok S len (fun cdv A outer s H vs Q E hr h => let ⟨t, h1, h2⟩ := hbody cdv A outer s H vs Q E hr h; ⟨t, h1.nox, h2⟩), F.bindsN hb, .nil⟩
theorem metD {C m q : Str} {st : Stmt} {N ps : List Str} {k n : Nat} {sp : Sp} {dvs : List V} (F : ∃ fd, FunD K m q (defArgs st) (defBody st) (defScope st) dvs [] (He.ma K (He.ga K C) m) fd) (c : Cls K (He.ga K C)) (me : Meth K (He.ga K C) m (He.ma K (He.ga K C) m)) (S : FnScope N ps (defScope st))
    (hd : dvs ≠ []) (hn : n = ps.length)
    (hb : ∀ (T : Addr) (kV doc pm : Value) (an : Option Addr) (cdv ct : Value) (us its : List Value), us.length = n → its.length = dvs.length →
      ∃ k, bindArgs (PySem.W.fnOf m q (defArgs st) (defBody st) (defScope st) (.ref T) kV doc pm an cdv ct) ⟨us, []⟩ = seqItems? (.ref T) >>= k ∧ k (some its.toArray) = pure (ps.zip (us ++ its.drop dvs.length)))
    (len : ∀ vs H Q E, sp vs H Q E → vs.length = ps.length)
    (hbody : ∀ (cdv : Value) (A : Around) (outer : List Env) (s : Shared) (H : Hp) (vs : List V) (Q : VK) (E : XK), Room k (A.deeper (envOfC q (defScope st) s.heap.objs.size (He.ma K (He.ga K C) m) cdv)) → sp vs H Q E →
      ∃ t, PSs (cxOf C8.CX0 P w K mg base N q (defScope st) (He.ma K (He.ga K C) m) cdv A outer s H E).nox (defBody st) t ∧ t { nx := fun _ H' => Q .non H', rt := Q } (start N vs) H) : C8.Met P w K mg base (k + 1) (He.ga K C) m sp [] := by
  obtain ⟨fd, F⟩ := F
  obtain ⟨ds, r, b⟩ := F.binds1 n dvs.length hd (by omega) hb
  rw [List.drop_length] at r
  exact ⟨_, fd, ps, ds, c, me, F.ok S len (fun cdv A outer s H vs Q E hr h => let ⟨t, h1, h2⟩ := hbody cdv A outer s H vs Q E hr h; ⟨t, h1.nox, h2⟩), b, r⟩
end
theorem sl0 : 0 ≤ sizeLine := by decide
theorem sl1 : 1 ≤ sizeLine := by decide
theorem sl2 : 2 ≤ sizeLine := by decide
theorem sl3 : 3 ≤ sizeLine := by decide
theorem sl4 : 4 ≤ sizeLine := by decide
theorem sl5 : 5 ≤ sizeLine := by decide
abbrev tv (l : List Nat) : V := .str (S l)
end TwK

set_option Elab.async false
set_option linter.all false
set_option maxRecDepth 100000
set_option maxHeartbeats 2000000
set_option pp.deepTerms false
set_option pp.deepTerms.threshold 6
namespace TwK
open PySem PySem.Spec PyProof.Rows L2 SX
section
variable {X : Cx}
/-! ### tuple(text) -/
def chv (z : Str) : List V := z.cps.toList.map fun c => V.str ⟨#[c]⟩
theorem chv_S (l : List Nat) : chv (S l) = l.map fun c => tv [c] := rfl
theorem vals_signs {z : Str} {acc : Array Value} (h : ItemsOf (SignAt z) acc z.cps.size) : Vals (chv z) acc.toList := by
  refine vals_of_idx _ _ ?_ fun j u hu => ?_
  · rw [Array.length_toList, h.1]
    simp [chv]
  · have hj : j < acc.size := by
      have q := (List.getElem?_eq_some_iff.mp hu).1
      rwa [Array.length_toList] at q
    have hj2 : j < z.cps.size := by rw [← h.1]; exact hj
    obtain ⟨c, t, e1, e2⟩ := h.2 j (acc[j]'hj) (by simp [hj])
    refine ⟨.str ⟨#[c]⟩, ?_, ?_⟩
    · unfold chv
      rw [List.getElem?_map, Array.getElem?_toList, e1]
      rfl
    · have e : u = acc[j]'hj := by
        rw [Array.getElem?_toList] at hu
        rw [Array.getElem?_eq_getElem hj] at hu
        exact (Option.some.inj hu).symm
      rw [e, e2]
      exact ⟨t, rfl⟩
theorem call_tuple_txt (hc : X.calm = true) : CallR X (.type "tuple") (fun xs H Q => ∃ z, xs = [.str z] ∧ z.length ≤ sizeLine ∧ ∀ l, H l = none → Q (.ref l) (upd H l (.tup (chv z)))) := by
  intro pins s σ H xs us Q I r h
  obtain ⟨z, rfl, hz, q⟩ := h
  obtain ⟨u, rfl, rx⟩ := vals1 r
  obtain ⟨t, rfl⟩ := rx
  refine call_tuple_str (I.ok.hd hc) z t (fun h' tk acc kp it => ?_) hz
  have I1 : Inv X pins σ H { s with heap := h', toks := tk } := I.kept kp
  have I2 : Inv X pins σ (upd H h'.objs.size (.tup (chv z))) { s with heap := h'.push { cls := .type "tuple", data := .seq acc }, toks := tk } := by
    refine I1.laid (fun b o e => Heap.get?_push_of_some _ e) (Nat.le_refl _) (show ObjOk X.prog X.w _ _ _ (.tup (chv z)) from ⟨?_, acc.toList, vals_signs it, ?_⟩)
    · show (chv z).length ≤ sizeLine
      simp only [chv, List.length_map, Array.length_toList]
      exact hz
    · have e : acc.toList.toArray = acc := by simp
      rw [e]
      exact IsTup.new _ _
  exact ⟨.ref h'.objs.size, _, I2, rfl, q _ (I1.hok.fresh (Nat.le_refl _))⟩
/-! ### enumerate(tuple) -/
end
end TwK
namespace PySem
open Sem (wp)
open AutoSeq1 (wpAny_loadPart')
set_option maxRecDepth 100000
theorem meets_enumerate_newTw (l : Addr) (items : Array Value) :
    Meets (Builtin.«enumerate.__new__» ⟨[.type "enumerate", .ref l], []⟩) (fun _ R s => Heap.IsTuple s.heap l items ∧
      R (.ok (.ret (.ref (s.heap.push { cls := .type "tuple_iterator", data := .fields #[.ref l, .int 0 0] }).objs.size)))
        { s with heap := (s.heap.push { cls := .type "tuple_iterator", data := .fields #[.ref l, .int 0 0] }).push { cls := .type "enumerate", data := .fields #[.none, .bool false, .ref s.heap.objs.size, rawInt 0, .none, .none] } }) :=
  .of_wp fun prog w A R s h => by
    obtain ⟨hp, g, d, tk, os⟩ := s; obtain ⟨hL, h⟩ := h
    obtain ⟨o, hl, hc, hd⟩ := id hL
    have hsub := sub_enumerate
    wp_walk using wpAny_loadPart' hl
    refine wpAny_stack_any fun st => wpAny_pure ?_
    split
    · rename_i c _ _ _ _ _
      cases (c == Value.type "enumerate")
      · wp_walk using wpAny_loadPart' hl, wpAny_pyIter_tuple hL
        exact ⟨_, rfl, h⟩
      · wp_walk using wpAny_loadPart' hl, wpAny_pyIter_tuple hL
        exact ⟨_, rfl, h⟩
    · wp_walk using wpAny_loadPart' hl, wpAny_pyIter_tuple hL
      exact ⟨_, rfl, h⟩
section
variable {prog : Program} {w : World} {A : Around} {E : Value → Shared → Prop} {s : Shared}
theorem call_enumerate_tupleTw {l : Addr} {items : Array Value} {Q : Value → Shared → Prop} (hL : s.heap.IsTuple l items)
    (h : ∀ h', IsEnum h' (s.heap.objs.size + 1) s.heap.objs.size 0 .none → h'.IsTupleIter s.heap.objs.size l 0 → h'.objs.size = s.heap.objs.size + 2 →
      (∀ b o, s.heap.get? b = some o → h'.get? b = some o) → Q (.ref (s.heap.objs.size + 1)) { s with heap := h' }) :
    wpAny (model prog w) A (call (.type "enumerate") [.ref l]) Q E s := by
  refine callType_new F.called_enumerate (by decide) (F.typeCall_enumerate_1 _) (F.newCall_enumerate_1 _) (fun obj => F.args_object_init_2 obj _) F.entry_enumerate_new
    (meets_enumerate_newTw l items) ⟨hL, ?_⟩
  have hz : (s.heap.push { cls := .type "tuple_iterator", data := .fields #[.ref l, .int 0 0] }).objs.size = s.heap.objs.size + 1 := Heap.size_push ..
  show _ ∧ _
  rw [hz]
  have he : IsEnum ((s.heap.push { cls := .type "tuple_iterator", data := .fields #[.ref l, .int 0 0] }).push
      { cls := .type "enumerate", data := .fields #[.none, .bool false, .ref s.heap.objs.size, rawInt 0, .none, .none] }) (s.heap.objs.size + 1) s.heap.objs.size 0 .none := by
    have := Heap.get?_push_size (s.heap.push { cls := .type "tuple_iterator", data := .fields #[.ref l, .int 0 0] })
      (o := { cls := .type "enumerate", data := .fields #[.none, .bool false, .ref s.heap.objs.size, rawInt 0, .none, .none] }) rfl
    rw [hz] at this; exact this
  refine ⟨⟨_, he, rfl⟩, h _ he ⟨_, Heap.get?_push_of_some _ (Heap.get?_push_size _ rfl), rfl, rfl⟩ (by rw [Heap.size_push, hz]) fun b o x => Heap.get?_push_of_some _ (Heap.get?_push_of_some _ x)⟩
end
end PySem
namespace TwK
open PySem PySem.Spec PyProof.Rows L2 SX
/-- the tuple at a, each item in a new pair -/
def ItEt (K : PySem.W.Frag) (a : Addr) : It :=
  ⟨fun i H => ∃ (xs : List V) (x : V), SqT K H a xs ∧ xs[i]? = some x, fun i H v H' => ∃ T x, v = .ref T ∧ H T = none ∧ H' = upd H T (.tup [.int (i : Nat), x]) ∧ ∀ xs, SqT K H a xs → xs[i]? = some x, fun i H => ∃ xs : List V, SqT K H a xs ∧ xs.length = i⟩
theorem turn_enumT {P : Program} {w : World} {K : PySem.W.Frag} {elts : List Expr} {kk : Nat} {tpos : Pos} (a e it : Addr) :
    Turn P w K (.Tuple elts kk tpos) (ItEt K a) [e, it] e (fun i h => (∃ old, IsEnum h e it ((i : Nat) : Int) old) ∧ h.IsTupleIter it a i ∧ e ≠ it) where
  mem := by simp
  obj := fun i h st b hb => by
    obtain ⟨⟨old, he⟩, ⟨o, ho, hc, hd⟩, _⟩ := st
    have e' : b = e ∨ b = it := by simpa using hb
    rcases e' with z | z
    · rw [z]; exact ⟨_, he, fun v q => nomatch q⟩
    · rw [z]; exact ⟨o, ho, fun v q => by rw [hd] at q; cases q⟩
  keep := fun i h h' st k => let ⟨⟨old, he⟩, hi, hne⟩ := st; ⟨⟨old, k e (by simp) _ he⟩, hi.at fun o q => k it (by simp) o q, hne⟩
  item := by
    intro X hP hw hK hc i pins s σ H E I hf st hg
    subst hP hw hK
    obtain ⟨⟨old, he⟩, hit, hne⟩ := st
    obtain ⟨xs, x, hq, hx⟩ := hg
    obtain ⟨its, rv, p, hz⟩ := I.tuple hq
    obtain ⟨u, hu, ru⟩ := rv.get hx
    have hel : e < s.heap.objs.size := Heap.lt_size he
    have hil : it < s.heap.objs.size := by obtain ⟨_, q, _⟩ := hit; exact Heap.lt_size q
    have hT : s.heap.IsTuple a its.toArray := p
    have hae : a ≠ e := fun z => by
      obtain ⟨o, h1, h2, n, h3⟩ := hT
      rw [z, he] at h1
      cases h1
      cases h3
    have hai : a ≠ it := fun z => by
      obtain ⟨o, h1, h2, n, h3⟩ := hT
      obtain ⟨o', h1', h2', h3'⟩ := hit
      rw [z, h1'] at h1
      cases h1
      rw [h3'] at h3
      cases h3
    have hlen := rv.length
    have hlt : i < its.toArray.size := by
      have q := (List.getElem?_eq_some_iff.mp hu).1
      simpa using q
    refine wpAny_pyNext_enum_itemD (Draws.tuple (A := X.A.in1) (I.ok.hd hc) it a hai its.toArray) he ⟨hit, hT⟩ hlt hne (by simp; exact ⟨hne, fun z => hae z.symm⟩) fun x' h' tk hp ho hst hT' hsz hk => ?_
    have ex : x' = u := by
      have q : its.toArray[i]? = some x' := hp
      rw [List.getElem?_toArray, hu] at q
      exact (Option.some.inj q).symm
    subst ex
    refine ⟨_, rfl, wpAny_letOwnedTupleGo_enum (s := { s with heap := h', toks := tk + 1 }) ho fun h'' he' sb => ?_⟩
    have hT2 : h''.get? s.heap.objs.size = some { cls := .type "tuple", data := .seq #[.int i tk, x'] } := (sb.2 _ (Nat.ne_of_gt hel)).trans hT'
    have new : ObjOk X.prog X.w (upd H s.heap.objs.size (.tup [.int (i : Nat), x])) h'' s.heap.objs.size (.tup [.int (i : Nat), x]) :=
      ⟨by show 2 ≤ sizeLine; decide, [.int i tk, x'], .cons ⟨_, rfl⟩ (.cons ru .nil), ⟨_, hT2, rfl, _, rfl⟩⟩
    have I1 : Inv X pins σ (upd H s.heap.objs.size (.tup [.int (i : Nat), x])) { s with heap := h'', toks := tk + 1 } :=
      I.turnedNew (ch := [e, it]) (fun b ob hb q => (sb.2 b (fun z => hb (by simp [z]))).trans (hk b ob (fun z => hb (by simp [z])) (fun z => hb (by simp [z])) q)) hf (Nat.le_refl _) new
    refine ⟨.ref s.heap.objs.size, _, I1, rfl, ⟨_, x, rfl, I.hok.fresh (Nat.le_refl _), rfl, fun ys hy => by rw [I.tuple_inj hy hq]; exact hx⟩, ⟨⟨x', ?_⟩, hst.1.at fun o q => (sb.2 it (Ne.symm hne)).trans q, hne⟩, fun b hb => ?_⟩
    · have e1 : ((i + 1 : Nat) : Int) = (i : Int) + 1 := by omega
      rw [e1]; exact he'
    · have hb' : b < s.heap.objs.size := by
        have e' : b = e ∨ b = it := by simpa using hb
        rcases e' with z | z
        · rw [z]; exact hel
        · rw [z]; exact hil
      rw [upd_ne (Nat.ne_of_lt hb')]
      exact (hf b hb).1
  done := by
    intro X hP hw hK hc i pins s σ H E I hf st hg
    subst hP hw hK
    obtain ⟨⟨old, he⟩, hit, hne⟩ := st
    obtain ⟨xs, hq, hx⟩ := hg
    obtain ⟨its, rv, p, hz⟩ := I.tuple hq
    obtain ⟨f0, f1, f2, f3, f4, f5⟩ := hf it (by simp)
    have hl := rv.length
    have hT : s.heap.IsTuple a its.toArray := p
    have hai : a ≠ it := fun z => by
      obtain ⟨o, h1, h2, n, h3⟩ := hT
      obtain ⟨o', h1', h2', h3'⟩ := hit
      rw [z, h1'] at h1
      cases h1
      rw [h3'] at h3
      cases h3
    have ei : i = its.toArray.size := by simp; omega
    subst ei
    exact wpAny_pyNext_enum_endD (Draws.tuple (A := X.A.in1) (I.ok.hd hc) it a hai its.toArray) he ⟨hit, hT⟩ fun h' eb => ⟨rfl, I.turned (t' := s.toks) (fun b o hb q => eb b o hb q) f0 f1 f3 f4 f5⟩
  self := fun A i s Q E st h => let ⟨⟨_, he⟩, _⟩ := st; wpAny_pyIter_enum he h
def iEnumT (K : PySem.W.Frag) (ta : TA) : TI := fun σ H R => ta σ H fun vs H1 => ∃ a xs, vs = [.ref a] ∧ SqT K H1 a xs ∧ R (ItEt K a) H1
theorem pi_enumT {X : Cx} {e : Expr} {ta : TA} {p pos tpos : Pos} {elts : List Expr} {kk : Nat} (hg : Gl X "enumerate") (hm : X.mg "enumerate" = none) (ha : PA X [e] ta) (hs : starEach [e] X.env = [(false, eval e X.env)] := by rfl) :
    PI X (.Tuple elts kk tpos) (.Call (.Name "enumerate" p) [e] [] pos) (iEnumT X.K ta) := by
  refine ⟨fun pins s σ H R I h => ?_⟩
  refine Call_ (ld_blt I hg hm boot_enumerate (PyProof.Rows.callWith_type1 (thn (ha.run pos pins s σ H _ I h) fun us s1 ⟨vs, H1, I1, r1, q1⟩ => ?_) hs rfl))
  obtain ⟨a, xs, ex, hq, q⟩ := q1
  subst ex
  cases r1 with
  | cons r rr =>
    cases rr
    cases r
    obtain ⟨its, rv, p', hz⟩ := I1.tuple hq
    refine call_enumerate_tupleTw (items := its.toArray) p' fun h' he hit hsz hk => wpAny_pyIter_enum he ?_
    have I2 : Inv X pins σ H1 { s1 with heap := h' } := I1.kept (t' := s1.toks) hk
    refine ⟨s1.heap.objs.size + 1, [s1.heap.objs.size + 1, s1.heap.objs.size], _, _, H1, rfl, I2, turn_enumT a (s1.heap.objs.size + 1) s1.heap.objs.size, ⟨⟨.none, he⟩, hit, Nat.succ_ne_self _⟩, fun b hb => ?_, q⟩
    have e' : b = s1.heap.objs.size + 1 ∨ b = s1.heap.objs.size := by simpa using hb
    have hle : s1.heap.objs.size ≤ b := by
      rcases e' with z | z
      · rw [z]; exact Nat.le_add_right _ _
      · rw [z]; exact Nat.le_refl _
    exact I1.fpOk hle (I1.hok.fresh hle)
/-- for place, thing in enumerate(a tuple that stands) -/
theorem for_enumT {K : PySem.W.Frag} {a : Addr} {xs : List V} {g : TG} {tb : TS} {D : Ends} {σ : L2.St} {H : Hp} (Pv : Nat → L2.St → Hp → Prop) (h0 : Pv 0 σ H) (hl : ∀ i σ H, i ≤ xs.length → Pv i σ H → SqT K H a xs)
    (hs : ∀ i x σ H T, xs[i]? = some x → Pv i σ H → H T = none → g (.ref T) σ (upd H T (.tup [.int (i : Nat), x])) fun σ2 H2 => tb { D with nx := Pv (i + 1), ct := Pv (i + 1), bk := D.nx } σ2 H2) (hd : ∀ σ H, Pv xs.length σ H → D.nx σ H) :
    ∃ W : Nat → Nat → L2.St → Hp → Prop, (∃ m, W 0 m σ H) ∧ ∀ i m σ H, W i m σ H →
      ((ItEt K a).stop i H ∧ D.nx σ H) ∨ ((ItEt K a).go i H ∧ ∃ N : L2.St → Hp → Prop, (∀ σ' H', N σ' H' → ∃ m', m' < m ∧ W (i + 1) m' σ' H') ∧ ∀ x H', (ItEt K a).yld i H x H' → g x σ H' fun σ2 H2 => tb { D with nx := N, ct := N, bk := D.nx } σ2 H2) := by
  refine ⟨fun i m σ H => i + m = xs.length ∧ Pv i σ H, ⟨xs.length, by omega, h0⟩, fun i m σ H ⟨hm, hp⟩ => ?_⟩
  have hS := hl i σ H (by omega) hp
  cases m with
  | zero =>
    have e : i = xs.length := by omega
    subst e
    exact .inl ⟨⟨xs, hS, rfl⟩, hd σ H hp⟩
  | succ m =>
    have hi : i < xs.length := by omega
    refine .inr ⟨⟨xs, xs[i], hS, List.getElem?_eq_getElem hi⟩, Pv (i + 1), fun σ' H' q => ⟨m, by omega, by omega, q⟩, fun x H' ⟨T, y, e1, e2, e3, e4⟩ => ?_⟩
    subst e1 e3
    exact hs i y σ H T (e4 xs hS) hp e2
end TwK

set_option Elab.async false
set_option linter.all false
set_option maxRecDepth 100000
set_option maxHeartbeats 2000000
set_option pp.deepTerms false
set_option pp.deepTerms.threshold 6
namespace TwK
open PySem PySem.Spec PyProof.Rows L2 SX LamX NdefX
/-! ### the junk functions that the law hands on: lambda x: x in _law_bad -/
abbrev lamScope (p : Str) : Scope := { kind := .function, names := [(p, .local), ("_law_bad", .free)], isGenerator := false, isCoroutine := false, more := [] }
abbrev lamArgs (p : Str) (pp : Pos) : Arguments := { posonlyargs := [], args := [{ arg := p, annotation := none, pos := pp }], vararg := none, kwonlyargs := [], kw_defaults := [], kwarg := none, defaults := [] }
abbrev lamBody (p : Str) (p1 p2 p3 : Pos) : Expr := .Compare (.Name p p1) [.In] [.Name "_law_bad" p2] p3
structure LamD where
  p : Str
  pp : Pos
  p1 : Pos
  p2 : Pos
  p3 : Pos
  qual : Str
  cell : Addr
  c : Addr
def LamD.obj (d : LamD) (pm ctv : Value) : Obj := PySem.W.kla_obj "<lambda>" d.qual (lamArgs d.p d.pp) (lamBody d.p d.p1 d.p2 d.p3) (lamScope d.p) [("_law_bad", d.cell)] pm d.c ctv
def LamO (f : Addr) (d : LamD) : HO := .ext fun h => ∃ pm ctv : Value, h.get? f = some (d.obj pm ctv)
def CellO (c : Addr) (v : V) : HO := .ext fun h => ∃ u, RelV v u ∧ h.IsCell c (some u)
theorem cellO_ok {P : Program} {w : World} {H : Hp} {h : Heap} {c : Addr} {v : V} {u : Value} (r : RelV v u) (x : h.IsCell c (some u)) : ObjOk P w H h c (CellO c v) := by
  obtain ⟨o, ho, hd⟩ := id x
  refine ⟨⟨u, r, x⟩, ⟨o, ho⟩, fun h1 h2 ⟨u, r, o, ho, hd⟩ k => ⟨u, r, o, k _ ho, hd⟩⟩
theorem lamO_ok {P : Program} {w : World} {H : Hp} {h : Heap} {f : Addr} {d : LamD} {pm ctv : Value} (x : h.get? f = some (d.obj pm ctv)) : ObjOk P w H h f (LamO f d) :=
  ⟨⟨pm, ctv, x⟩, ⟨_, x⟩, fun h1 h2 ⟨pm, ctv, z⟩ k => ⟨pm, ctv, k _ z⟩⟩
theorem cellO_own {c b : Addr} {v : V} : CellO c v ≠ .own b := fun z => by unfold CellO at z; cases z
theorem cellO_tup {c : Addr} {v : V} {xs : List V} : CellO c v ≠ .tup xs := fun z => by unfold CellO at z; cases z
/-- such a function stands at f -/
structure LamAt (H : Hp) (f : Addr) (d : LamD) (bad : Addr) (ls : List (List Nat)) : Prop where
  par : d.p = "_law_line_here" ∨ d.p = "_law_sign"
  fn : H f = some (LamO f d)
  cd : H d.c = some (CodeO d.c d.qual)
  cl : H d.cell = some (CellO d.cell (.ref bad))
  bd : H bad = some (.lst (ls.map tv))
theorem LamAt.mono {H H' : Hp} {f bad : Addr} {d : LamD} {ls : List (List Nat)} (a : LamAt H f d bad ls) (s : Same H H') : LamAt H' f d bad ls := ⟨a.par, s _ _ a.fn, s _ _ a.cd, s _ _ a.cl, s _ _ a.bd⟩
/-- the heap without the cell -/
def wo (H : Hp) (c : Addr) : Hp := fun b => if b = c then none else H b
theorem wo_at {H : Hp} {c : Addr} : wo H c c = none := if_pos rfl
theorem wo_ne {H : Hp} {b c : Addr} (h : b ≠ c) : wo H c b = H b := if_neg h
section
variable {P : Program} {w : World} {H : Hp} {h : Heap} {c : Addr} {v : V}
theorem wo_hok (x : HOk P w H h) (e : H c = some (CellO c v)) : HOk P w (wo H c) h := fun b o hb => by
  by_cases hc : b = c
  · rw [hc, wo_at] at hb
    cases hb
  · rw [wo_ne hc] at hb
    refine (x b o hb).stay (fun _ _ _ z => z) (fun d z => ?_) fun d xs z => ?_
    · rw [wo_ne (fun q => by rw [q, e] at z; exact cellO_own (Option.some.inj z))]
      exact z
    · rw [wo_ne (fun q => by rw [q, e] at z; exact cellO_tup (Option.some.inj z))]
      exact z
theorem wo_back (x : HOk P w (wo H c) h) (e : H c = some (CellO c v)) (k : ObjOk P w H h c (CellO c v)) : HOk P w H h := fun b o hb => by
  by_cases hc : b = c
  · subst hc
    rw [e] at hb
    cases hb
    exact k
  · refine (x b o (by rw [wo_ne hc]; exact hb)).stay (fun _ _ _ z => z) (fun d z => ?_) fun d xs z => ?_
    · by_cases hd : d = c
      · rw [hd, wo_at] at z
        cases z
      · rw [wo_ne hd] at z
        exact z
    · by_cases hd : d = c
      · rw [hd, wo_at] at z
        cases z
      · rw [wo_ne hd] at z
        exact z
end
theorem lam_scope {p : Str} (h : p = "_law_line_here" ∨ p = "_law_sign") : NScope [p, "_law_bad"] [p] ["_law_bad"] (lamScope p) := by
  rcases h with e | e
  · rw [e]
    exact nscope_by (by decide +kernel)
  · rw [e]
    exact nscope_by (by decide +kernel)
theorem lam_clo (c : Addr) : ([(("_law_bad" : Str), c)] : List (Str × Addr)).lookup ("_law_bad" : Str) = some c := by
  show (match (("_law_bad" : Str) == ("_law_bad" : Str)) with | true => some c | false => none) = some c
  rw [beq_self_eq_true]
theorem lam_clo_inv {c d : Addr} {x : Str} (h : ([(("_law_bad" : Str), c)] : List (Str × Addr)).lookup x = some d) : x = "_law_bad" ∧ d = c := by
  have m := PySem.mem_of_lookup h
  have e : (x, d) = (("_law_bad" : Str), c) := List.mem_singleton.mp m
  exact ⟨congrArg Prod.fst e, congrArg Prod.snd e⟩
def spLam (f : Addr) : Sp := fun vs H Q _ => ∃ (l : List Nat) (d : LamD) (bad : Addr) (ls : List (List Nat)), vs = [tv l] ∧ LamAt H f d bad ls ∧ ∀ b, Q (.bl b) H
theorem flat_tvs (ls : List (List Nat)) : (ls.map tv).all flatV = true := by
  rw [List.all_eq_true]
  intro x hx
  obtain ⟨l, _, rfl⟩ := List.mem_map.mp hx
  rfl
theorem lam_run {P : Program} {w : World} {K : PySem.W.Frag} {mg : Str → Option Value} {base : Heap} (f : Addr) : FnR P w K mg base C8.CX0 1 f (spLam f) := by
  intro A outer s H us vs Q E hr e0 r hsp
  obtain ⟨l, d, bad, ls, rfl, L, q⟩ := hsp
  obtain ⟨u, rfl, ru⟩ := Vals.one r
  obtain ⟨⟨pm, ctv, ho⟩, _, _⟩ := e0.hok f _ L.fn
  obtain ⟨⟨uc, ruc, hcell⟩, _, _⟩ := e0.hok d.cell _ L.cl
  have hcd := codeO_at e0.hok L.cd
  have S := lam_scope L.par
  have lim : s.heap.NoLimit := e0.mod.nolimit.keeps fun b o e => (e0.bs b o e).1
  have bne : bad ≠ d.cell := fun z => by
    have q := L.bd
    rw [z, L.cl] at q
    have q := Option.some.inj q
    unfold CellO at q
    cases q
  refine PySem.W.kla_callFunE hr.depth ho rfl rfl rfl rfl hcd ?_
  have hb : bindArgs (PySem.W.kla_fn "<lambda>" d.qual (lamArgs d.p d.pp) (lamBody d.p d.p1 d.p2 d.p3) (lamScope d.p) [("_law_bad", d.cell)] pm (.ref d.c) ctv) ⟨[u], []⟩ = pure ([d.p].zip [u]) := by
    rcases L.par with e | e <;> rw [e] <;> rfl
  rw [hb]
  refine wpAny_pure (wpAny_newFunctionEnv S.nocell (fun ⟨n, _⟩ hy => S.par n (List.of_mem_zip hy).1) (fun h₁ hns hsb => ⟨lim.fresh _ hsb, ?_⟩) S.kind)
  have kp : ∀ b o, s.heap.get? b = some o → h₁.get? b = some o := fun b o e => hsb.extBut b o (Nat.ne_of_lt (Heap.lt_size e)) (Heap.get?_push_of_some _ e)
  let F : NF := ⟨"<lambda>", d.qual, lamArgs d.p d.pp, [], lamScope d.p, [("_law_bad", d.cell)], d.c⟩
  have e0' : Env0 P w K mg base A outer s (wo H d.cell) := ⟨e0.frames, e0.mod, fun b o e => ⟨(e0.bs b o e).1, by
    by_cases hb : b = d.cell
    · rw [hb, wo_at]
    · rw [wo_ne hb]
      exact (e0.bs b o e).2⟩, e0.bsz, e0.funs, fun b hb => by
    by_cases hb2 : b = d.cell
    · rw [hb2, wo_at]
    · rw [wo_ne hb2]
      exact e0.frf b hb, wo_hok e0.hok L.cl, e0.bare⟩
  have C : CellsAt F.cl ["_law_bad"] [some (.ref bad)] s.heap (wo H d.cell) := by
    refine ⟨rfl, fun y c e => ?_, fun x y c e1 e2 => ?_, fun i y e => ?_⟩
    · obtain ⟨_, rfl⟩ := lam_clo_inv e
      exact ⟨wo_at, _, hcell⟩
    · rw [(lam_clo_inv e1).1, (lam_clo_inv e2).1]
    · cases i with
      | zero =>
        have ey : ("_law_bad" : Str) = y := Option.some.inj e
        subst ey
        refine ⟨d.cell, lam_clo _, fun v ev => ?_⟩
        have e2 : V.ref bad = v := Option.some.inj (Option.some.inj ev)
        subst e2
        exact ⟨uc, ruc, hcell⟩
      | succ i => simp at e
  have I := inv_startN (CX := C8.CX0) (E := E) (N := [d.p, "_law_bad"]) (F := F) (f := f) (tk := s.toks + ([d.p].zip [u]).length) S hr.hd e0' rfl r C hns kp
  have hv0 : Vis (lamScope d.p) d.p := .inl (S.par d.p (List.mem_singleton.mpr rfl))
  have hv1 : Vis (lamScope d.p) "_law_bad" := .inr (.inr (S.frk _ (List.mem_singleton.mpr rfl)))
  have hd0 : (d.p == ("__debug__" : Str)) = false ∧ (d.p == ("__classdict__" : Str)) = false := by
    rcases L.par with e | e <;> rw [e] <;> exact ⟨by decide, by decide⟩
  have PEb : PE (ncx C8.CX0 P w K mg base [d.p, "_law_bad"] F f A outer s (wo H d.cell) E) (lamBody d.p d.p1 d.p2 d.p3) (tOp (rIn K false) (tVar 0) (tVar 1)) :=
    pe_cmpR op_in_seq (pe_var (i := 0) rfl hv0 hd0.1 hd0.2) (pe_var (i := 1) rfl hv1) (by rfl)
  refine PySem.W.kla_codeExpr (wpAny_mono (PEb.run [] _ _ _ (fun v H' => ∃ b, v = .bl b ∧ H' = wo H d.cell) I ?_) (fun v s' hq => ?_) fun e s' hq => hq)
  · exact ⟨_, rfl, _, rfl, bad, ls.map tv, rfl, .inl (SqL.of (by rw [wo_ne bne]; exact L.bd)), rfl, flat_tvs ls, _, rfl, rfl⟩
  · obtain ⟨v', H', J, rv, b, e1, e2⟩ := hq
    subst e1 e2
    have un := J.base
    have cnf : d.cell ∉ frs outer := fun z => by
      have q := e0.frf _ z
      rw [L.cl] at q
      cases q
    refine ⟨.bl b, H, J.os, J.bare, ?_, ?_, rv, q b⟩
    · have hk : ∀ b, H b = none → wo H d.cell b = none := fun b n => by
        by_cases hb : b = d.cell
        · rw [hb, wo_at]
        · rw [wo_ne hb]
          exact n
      refine ⟨fun b o e n h1 h2 => un.keep b o e (hk b n) h1 h2, fun b o e n h1 h2 => un.slot b o e (hk b n) h1 h2, fun b o e n _ => n, un.there, fun b xs e => e, fun b o u e => e, fun b ps e => ⟨#[], by simpa using e⟩⟩
    · obtain ⟨o, ho, hd⟩ := hcell
      refine wo_back J.hok L.cl (cellO_ok ruc ⟨o, un.keep _ o ho wo_at cnf (fun z => nomatch z), hd⟩)
end TwK

set_option Elab.async false
set_option linter.all false
set_option maxRecDepth 100000
set_option maxHeartbeats 2000000
set_option pp.deepTerms false
set_option pp.deepTerms.threshold 6
namespace TwK
open PySem PySem.Spec PyProof.Rows L2 SX
/-! ### loops and comprehensions over anything of a known number of turns -/
theorem for_gen {J : It} {n : Nat} {g : TG} {tb : TS} {D : Ends} {σ : L2.St} {H : Hp} (Pv : Nat → L2.St → Hp → Prop) (h0 : Pv 0 σ H) (hstop : ∀ σ H, Pv n σ H → J.stop n H) (hgo : ∀ i σ H, i < n → Pv i σ H → J.go i H)
    (hs : ∀ i x σ H H', i < n → Pv i σ H → J.yld i H x H' → g x σ H' fun σ2 H2 => tb { D with nx := Pv (i + 1), ct := Pv (i + 1), bk := D.nx } σ2 H2) (hd : ∀ σ H, Pv n σ H → D.nx σ H) :
    ∃ W : Nat → Nat → L2.St → Hp → Prop, (∃ m, W 0 m σ H) ∧ ∀ i m σ H, W i m σ H →
      (J.stop i H ∧ D.nx σ H) ∨ (J.go i H ∧ ∃ N : L2.St → Hp → Prop, (∀ σ' H', N σ' H' → ∃ m', m' < m ∧ W (i + 1) m' σ' H') ∧ ∀ x H', J.yld i H x H' → g x σ H' fun σ2 H2 => tb { D with nx := N, ct := N, bk := D.nx } σ2 H2) := by
  refine ⟨fun i m σ H => i + m = n ∧ Pv i σ H, ⟨n, by omega, h0⟩, fun i m σ H ⟨hm, hp⟩ => ?_⟩
  cases m with
  | zero =>
    have e : i = n := by omega
    subst e
    exact .inl ⟨hstop _ _ hp, hd σ H hp⟩
  | succ m =>
    have hi : i < n := by omega
    exact .inr ⟨hgo i σ H hi hp, Pv (i + 1), fun σ' H' q => ⟨m, by omega, by omega, q⟩, fun x H' y => hs i x σ H H' hi hp y⟩
theorem lc_gen {J : It} {n : Nat} {g : TG} {tt : TT} {te : TE} {vs : List Nat} {σ : L2.St} {H1 : Hp} {D : Addr} {Qd : Hp → Prop} (Pv : Nat → Hp → Prop) (h0 : Pv 0 (upd H1 D (.lst []))) (hstop : ∀ H, Pv n H → J.stop n H) (hgo : ∀ i H, i < n → Pv i H → J.go i H)
    (hs : ∀ i x H H', i < n → Pv i H → J.yld i H x H' → g x (wipe σ vs) H' fun σ2 H2 => wipe σ2 vs = wipe σ vs ∧ tt σ2 H2 fun b H3 =>
      if b = true then te σ2 H3 fun y H4 => ∃ acc, H4 D = some (.lst acc) ∧ acc.length < sizeLine ∧ Pv (i + 1) (upd H4 D (.lst (acc ++ [y]))) else Pv (i + 1) H3) (hd : ∀ H, Pv n H → Qd H) :
    ∃ W : Nat → Nat → Hp → Prop, (∃ m, W 0 m (upd H1 D (.lst []))) ∧ ∀ i m H, W i m H →
      (J.stop i H ∧ Qd H) ∨ (J.go i H ∧ ∃ Nx : Hp → Prop, (∀ H', Nx H' → ∃ m', m' < m ∧ W (i + 1) m' H') ∧ ∀ x H', J.yld i H x H' → g x (wipe σ vs) H' fun σ2 H2 => wipe σ2 vs = wipe σ vs ∧ tt σ2 H2 fun b H3 =>
        if b = true then te σ2 H3 fun y H4 => ∃ acc, H4 D = some (.lst acc) ∧ acc.length < sizeLine ∧ Nx (upd H4 D (.lst (acc ++ [y]))) else Nx H3) := by
  refine ⟨fun i m H => i + m = n ∧ Pv i H, ⟨n, by omega, h0⟩, fun i m H ⟨hm, hp⟩ => ?_⟩
  cases m with
  | zero =>
    have e : i = n := by omega
    subst e
    exact .inl ⟨hstop _ hp, hd H hp⟩
  | succ m =>
    have hi : i < n := by omega
    exact .inr ⟨hgo i H hi hp, Pv (i + 1), fun H' q => ⟨m, by omega, by omega, q⟩, fun x H' y => hs i x H H' hi hp y⟩
/-! ### junk functions -/
def spJunk : Sp := fun vs H Q _ => ∃ l : List Nat, vs = [tv l] ∧ l ≠ [] ∧ l.length ≤ 1000 ∧ ∀ (b : Bool) (H' : Hp), Same H H' → Q (.bl b) H'
def JunkV (K : PySem.W.Frag) (H : Hp) (v : V) : Prop := v = .non ∨ v = .ref (He.ga K "is_blank_line") ∨ v = .ref (He.ga K "is_blank_sign") ∨ ∃ f d bad ls, v = .ref f ∧ LamAt H f d bad ls
theorem JunkV.mono {K : PySem.W.Frag} {H H' : Hp} {v : V} (j : JunkV K H v) (s : Same H H') : JunkV K H' v := by
  rcases j with e | e | e | ⟨f, d, bad, ls, e, L⟩
  · exact .inl e
  · exact .inr (.inl e)
  · exact .inr (.inr (.inl e))
  · exact .inr (.inr (.inr ⟨f, d, bad, ls, e, L.mono s⟩))
section
variable {P : Program} {w : World} {K : PySem.W.Frag} {mg : Str → Option Value} {base : Heap}
theorem sc_rowof : FnScope ["sequence"] ["sequence"] (defScope sRowOf) := ⟨rfl, rfl, rfl, by decide +kernel, rfl, by decide +kernel, by decide +kernel⟩
/-- row_of: of a list of texts, of a text -/
def spRow (K : PySem.W.Frag) : Sp := fun vs H Q _ => (∃ (a : Addr) (xs : List V), vs = [.ref a] ∧ SqL K H a xs ∧ ∀ t, H t = none → Q (.ref t) (upd H t (.tup xs))) ∨ ∃ l : List Nat, vs = [tv l] ∧ l.length ≤ 1000 ∧ ∀ t, H t = none → Q (.ref t) (upd H t (.tup (l.map fun c => tv [c])))
theorem ok_row (T : TX K mg) : C8.Cal P w K mg base 1 "row_of" (spRow K) [] := by
  refine calN T.f_RowOf T.g_row_of sc_rowof (fun _ _ _ _ _ _ us hl => match us, hl with | [_], _ => rfl) (fun vs H Q E h => ?_) (fun cdv A outer s H vs Q E hr h => ?_)
  · rcases h with ⟨a, xs, rfl, _⟩ | ⟨l, rfl, _⟩ <;> rfl
  · refine ⟨_, (pss_one (ps_ret (pe_callTy ((call_tuple_of).or (call_tuple_txt rfl)) (by rfl) T.n_tuple (by decide +kernel) (pa_cons (pv 0) pa_nil)))), ?_⟩
    rcases h with ⟨a, xs, rfl, hS, q⟩ | ⟨l, rfl, hl, q⟩
    · exact ⟨_, rfl, .inl ⟨a, xs, rfl, .inl ⟨hS, q⟩⟩⟩
    · refine ⟨_, rfl, .inr ⟨S l, rfl, ?_, q⟩⟩
      rw [S_len, sizeLine_eq]
      omega
theorem sc_bsign : FnScope ["sign"] ["sign"] (defScope sIsBlankSign) := ⟨rfl, rfl, rfl, by decide +kernel, rfl, by decide +kernel, by decide +kernel⟩
theorem ok_bsign (T : TX K mg) : C8.Cal P w K mg base 1 "is_blank_sign" spJunk [] := by
  refine calN T.f_IsBlankSign T.g_is_blank_sign sc_bsign (fun _ _ _ _ _ _ us hl => match us, hl with | [_], _ => rfl) (fun vs H Q E h => ?_) (fun cdv A outer s H vs Q E hr h => ?_)
  · obtain ⟨l, rfl, _⟩ := h
    rfl
  · obtain ⟨l, rfl, _, hl, q⟩ := h
    refine ⟨_, (pss_one (ps_ret (pe_cmpR op_in_seq (pv 0) (pe_tup (pa_cons pe_str (pa_cons pe_str pa_nil))) (by rfl)))), ?_⟩
    refine ⟨_, rfl, sl2, fun t ht => ⟨t, _, rfl, .inr (SqT.of upd_same), rfl, rfl, q _ _ (same_new ht)⟩⟩
theorem sc_bline : FnScope ["line", "text", "sign"] ["line"] (defScope sIsBlankLine) := ⟨rfl, rfl, rfl, by decide +kernel, rfl, by decide +kernel, by decide +kernel⟩
theorem slice_any (l : List Nat) (h : l ≠ []) : Txt.slice (S l) none (some (-1)) = S (l.take (l.length - 1)) := slice_butlast h
theorem line1000 {n : Nat} (h : n ≤ 1000) : n ≤ sizeLine := Nat.le_trans h (by decide)
theorem S_line {l : List Nat} (h : l.length ≤ 1000) : (S l).length ≤ sizeLine := by rw [S_len]; exact line1000 h
theorem ok_bline (T : TX K mg) : C8.Cal P w K mg base 1 "is_blank_line" spJunk [] := by
  refine calN T.f_IsBlankLine T.g_is_blank_line sc_bline (fun _ _ _ _ _ _ us hl => match us, hl with | [_], _ => rfl) (fun vs H Q E h => ?_) (fun cdv A outer s H vs Q E hr h => ?_)
  · obtain ⟨l, rfl, _⟩ := h
    rfl
  · obtain ⟨l, rfl, hne, hl, q⟩ := h
    have nd := sc_bline.nd
    refine ⟨_, (C8.pss_cut (ps_set (i := 1) nd rfl (.inl rfl) (pe_ifExp (pt_cmpR op_eq (pe_slice C8.sl_txt (pv 0) (po_some (pe_un un_neg pe_int)) po_none) pe_str (nomark _)) (pe_slice C8.sl_txt (pv 0) po_none (po_some (pe_un un_neg pe_int))) (pv 0)))
  (pss_one (ps_ret (pe_cmpR op_in_seq (pe_join pe_str (pe_lc (own := [("sign", 2)]) (g := gName 2) (by rfl) nd (pi_str (pv 1)) (blkOk_by (own := [("sign", 2)]) (N := ["line", "text", "sign"]) (sc := defScope sIsBlankLine) (by decide +kernel)) (fun _ _ _ _ _ => pg_name (i := 2) nd rfl (Or.inl rfl))
        (fun _ _ _ _ _ => pts_one (pt_cmpR op_notIn_sign (pv 2) pe_str (by rfl))) (fun _ _ _ _ _ => pv 2))) (pe_tup (pa_cons pe_str (pa_cons pe_str pa_nil))) (by rfl))))), ?_⟩
    refine ⟨fun σ H' => ∃ m : List Nat, σ = [some (tv l), some (tv m), none] ∧ m.length ≤ 1000 ∧ H' = H, ?_, ?_⟩
    · refine ⟨_, rfl, _, rfl, _, rfl, S l, rfl, S_line hl, rfl, _, rfl, ?_⟩
      refine iteB (fun _ => ?_) fun _ => ?_
      · refine ⟨_, rfl, _, rfl, _, rfl, S l, rfl, S_line hl, l.take (l.length - 1), ?_, ?_, rfl⟩
        · show [some (tv l), some (V.str (Txt.slice (S l) none (some (-1)))), none] = _
          rw [slice_any l hne]
        · rw [List.length_take]
          omega
      · exact ⟨_, rfl, l, rfl, hl, rfl⟩
    · rintro σ H' ⟨m, rfl, hm, rfl⟩
      refine ⟨⟨_, rfl⟩, _, rfl, S m, rfl, fun D hD => lc_gen (n := m.length) (fun i H2 => ∃ ys : List Str, Bld H' H2 D (ys.map V.str) ∧ ys.length ≤ i ∧ (ys.map (·.length)).sum ≤ i) ⟨[], Bld.start (Same.refl _) hD, Nat.le_refl _, Nat.le_refl _⟩ ?_ ?_ ?_ ?_⟩
      · rintro H2 _
        show (S m).cps.size ≤ m.length
        simp [S]
      · rintro i H2 hi _
        show i < (S m).cps.size
        simpa [S] using hi
      · rintro i x H2 H3 hi ⟨ys, B, h1, h2⟩ ⟨rfl, c, hc, rfl⟩
        refine ⟨rfl, _, rfl, c, _, rfl, rfl, _, rfl, iteB (fun _ => ?_) fun _ => ?_⟩
        · refine ⟨_, rfl, _, B.at_, ?_, ys ++ [⟨#[c]⟩], ?_, ?_, ?_⟩
          · rw [List.length_map, sizeLine_eq]
            omega
          · rw [List.map_append]
            exact B.push
          · rw [List.length_append, List.length_singleton]
            omega
          · rw [List.map_append, List.sum_append]
            have e : (([⟨#[c]⟩] : List Str).map (·.length)).sum = 1 := rfl
            rw [e]
            omega
        · exact ⟨ys, B, by omega, by omega⟩
      · rintro H2 ⟨ys, B, h1, h2⟩
        refine ⟨_, D, ys, rfl, rfl, .inl (SqL.of B.at_), ?_, sl2, fun t ht => ⟨t, _, rfl, .inr (SqT.of upd_same), rfl, rfl, q _ _ (B.same.trans (same_new ht))⟩⟩
        show _ + ys.length * 0 ≤ _
        omega
end
end TwK

set_option Elab.async false
set_option linter.all false
set_option maxRecDepth 100000
set_option maxHeartbeats 2000000
set_option pp.deepTerms false
set_option pp.deepTerms.threshold 6
namespace TwK
open PySem PySem.Spec PyProof.Rows L2 SX NdefX
def tJunk (K : PySem.W.Frag) (ta te : TE) : TE := fun σ H Q => ta σ H fun x H1 => ∃ a dx fs v, x = .ref a ∧ H1 a = some (.ins (He.ga K "Matcher") dx fs) ∧ fs.lookup ("is_junk" : Str) = some v ∧ v ≠ .non ∧ JunkV K H1 v ∧
  te σ H1 fun y H2 => ∃ l : List Nat, y = tv l ∧ l ≠ [] ∧ l.length ≤ 1000 ∧ Same H1 H2 ∧ ∀ (b : Bool) (H3 : Hp), Same H2 H3 → Q (.bl b) H3
def oneV (R : V → Hp → Prop) : List V → Hp → Prop := fun vs H => match vs with
  | [x] => R x H
  | _ => False
theorem oneV_at {R : V → Hp → Prop} {vs : List V} {H : Hp} (h : oneV R vs H) : ∃ y, vs = [y] ∧ R y H := by
  match vs, h with
  | [x], h => exact ⟨x, rfl, h⟩
theorem lamFn {X : Cx} {pins : List (Addr × Obj)} {σ : L2.St} {H : Hp} {s : Shared} {f bad : Addr} {d : LamD} {ls : List (List Nat)} (I : Inv X pins σ H s) (L : LamAt H f d bad ls) : PySem.W.FnAt f s.heap := by
  obtain ⟨⟨pm, ctv, ho⟩, _, _⟩ := I.hok f _ L.fn
  exact ⟨_, _, _, _, ho⟩
theorem pe_junk {X : Cx} {o e : Expr} {ta te : TE} {apos pos : Pos} {pl : Sem Bool} {j : Nat} (T : TX X.K X.mg) (cl : C8.Cal X.prog X.w X.K X.mg X.base 1 "is_blank_line" spJunk []) (cs : C8.Cal X.prog X.w X.K X.mg X.base 1 "is_blank_sign" spJunk []) (hr : Room j X.A) (hj : 1 ≤ j) (he : PE X o ta) (ha : PE X e te)
    (hst : starEach [e] X.env = (false, eval e X.env) :: starEach [] X.env := by rfl) (hpl : (backTo pos (starEach [] X.env)).any (·.1) = false := by rfl)
    (ht : eval (.Call (.Attribute o "is_junk" apos) [e] [] pos) X.env = (do
      let ov ← eval o X.env
      standAt apos.atName
      let (f, first) ← holding [ov] (getMethod ov "is_junk" pl)
      callWith pos f first (backTo pos (starEach [e] X.env)) (backToKw pos (keywordEach [] X.env))) := by rfl) :
    PE X (.Call (.Attribute o "is_junk" apos) [e] [] pos) (tJunk X.K ta te) := by
  refine ⟨fun pins s σ H Q I h => ?_⟩
  refine PySem.W.methodCall_KW (pl := pl) (thn (he.run pins s σ H _ I h) fun u s1 ⟨x, H1, I1, rx, a, dx, fs, v, ex, ea, l, nv, J, q⟩ => ?_) ht
  subst ex
  obtain rfl : u = Value.ref a := rx
  refine getmeth_fld I1 ea T.c_Matcher T.no_Matcher_is_junk l fun uv s2 I2 rv => ?_
  have pa : PA X [e] (tCons te tNil) := pa_cons ha pa_nil hst
  have hr1 : Room 1 X.A := hr.mono hj
  have byK : ∀ (x : Str), C8.Cal X.prog X.w X.K X.mg X.base 1 x spJunk [] → X.mg x = some (.ref (He.ga X.K x)) → v = .ref (He.ga X.K x) →
      wpAny (model X.prog X.w) X.A (callWith pos uv [] (backTo pos (starEach [e] X.env)) (backToKw pos (keywordEach [] X.env))) (EP X pins σ Q) X.xe s2 := fun x c hm ev => by
    obtain ⟨f, fd, ps, ds, F, hm2, kp, b, d⟩ := c.ex
    rw [hm] at hm2
    cases hm2
    subst ev
    obtain rfl : uv = Value.ref (He.ga X.K x) := rv
    refine PySem.W.callWith_K (first := []) (h₀ := X.base) I.ok.mod.kin kp (thn (pa.run pos pins s2 σ H1 (oneV (fun y H2 => ∃ l : List Nat, y = tv l ∧ l ≠ [] ∧ l.length ≤ 1000 ∧ Same H1 H2 ∧ ∀ (b : Bool) (H3 : Hp), Same H2 H3 → Q (.bl b) H3)) I2 q) fun us s3 ⟨vs, H3, I3, r, q3⟩ => ⟨I3.kIn, ?_⟩) hst hpl
    obtain ⟨y, rfl, hy⟩ := oneV_at q3
    obtain ⟨l, rfl, hne, hlen, sm, k⟩ := hy
    exact wpAny_call (run_fnR (us := us) (vs := [tv l]) (E := C8.E0) (FnOk.raw F b d) hr1 C8.pass0 I3 r ⟨l, rfl, hne, hlen, fun b H' s' => k b H' s'⟩)
  rcases J with e1 | e1 | e1 | ⟨f, d, bad, ls, e1, L⟩
  · exact absurd e1 nv
  · exact byK _ cl T.g_is_blank_line e1
  · exact byK _ cs T.g_is_blank_sign e1
  · subst e1
    obtain rfl : uv = Value.ref f := rv
    refine PySem.W.callWith_F (first := []) (lamFn I2 L) (thn (pa.run pos pins s2 σ H1 (oneV (fun y H2 => ∃ l : List Nat, y = tv l ∧ l ≠ [] ∧ l.length ≤ 1000 ∧ Same H1 H2 ∧ ∀ (b : Bool) (H3 : Hp), Same H2 H3 → Q (.bl b) H3)) I2 q) fun us s3 ⟨vs, H3, I3, r, q3⟩ => ?_) hst hpl
    obtain ⟨y, rfl, hy⟩ := oneV_at q3
    obtain ⟨l, rfl, hne, hlen, sm, k⟩ := hy
    have L3 := L.mono sm
    exact ⟨lamFn I3 L3, wpAny_call (run_fnR (us := us) (vs := [tv l]) (E := C8.E0) (lam_run f) hr1 C8.pass0 I3 r ⟨l, d, bad, ls, rfl, L3, fun b => k b H3 (Same.refl _)⟩)⟩
end TwK

set_option Elab.async false
set_option linter.all false
set_option maxRecDepth 100000
set_option maxHeartbeats 2000000
set_option pp.deepTerms false
set_option pp.deepTerms.threshold 6
namespace TwK
open PySem PySem.Spec PyProof.Rows L2 SX
/-! ### codes: what stands between two sequences -/
abbrev Ln := List Nat
inductive Wd where
  | rep | del | ins | eq
  deriving DecidableEq
def Wd.s : Wd → Str
  | .rep => "replace"
  | .del => "delete"
  | .ins => "insert"
  | .eq => "equal"
structure Code where
  w : Wd
  i : Nat
  i2 : Nat
  j : Nat
  j2 : Nat
def Code.v (c : Code) : List V := [.str c.w.s, .int c.i, .int c.i2, .int c.j, .int c.j2]
structure Blk where
  i : Nat
  j : Nat
  n : Nat
def Blk.v (b : Blk) : List V := [.int b.i, .int b.j, .int b.n]
def Code.Ok (xs ys : List Ln) (c : Code) : Prop := c.i2 ≤ xs.length ∧ c.j2 ≤ ys.length ∧ match c.w with
  | .rep => c.i < c.i2 ∧ c.j < c.j2
  | .del => c.i < c.i2 ∧ c.j = c.j2
  | .ins => c.i = c.i2 ∧ c.j < c.j2
  | .eq => c.i < c.i2 ∧ c.i2 - c.i = c.j2 - c.j ∧ c.j < c.j2 ∧ ∀ t, t < c.i2 - c.i → xs[c.i + t]? = ys[c.j + t]?
/-- the codes lead from (i, j) to (a, b) -/
def Lead (xs ys : List Ln) : List Code → Nat → Nat → Nat → Nat → Prop
  | [], i, j, a, b => i = a ∧ j = b
  | c :: cs, i, j, a, b => c.i = i ∧ c.j = j ∧ c.Ok xs ys ∧ Lead xs ys cs c.i2 c.j2 a b
theorem Lead.snoc {xs ys : List Ln} {c : Code} : ∀ {cs : List Code} {i j a b : Nat}, Lead xs ys cs i j a b → c.i = a → c.j = b → c.Ok xs ys → Lead xs ys (cs ++ [c]) i j c.i2 c.j2
  | [], i, j, a, b, h, e1, e2, k => ⟨e1.trans h.1.symm, e2.trans h.2.symm, k, rfl, rfl⟩
  | d :: cs, i, j, a, b, h, e1, e2, k => ⟨h.1, h.2.1, h.2.2.1, Lead.snoc h.2.2.2 e1 e2 k⟩
def Blk.Ok (xs ys : List Ln) (b : Blk) : Prop := b.i + b.n ≤ xs.length ∧ b.j + b.n ≤ ys.length ∧ ∀ t, t < b.n → xs[b.i + t]? = ys[b.j + t]?
/-- blocks, one behind another, to the ends -/
def Blks (xs ys : List Ln) : List Blk → Nat → Nat → Prop
  | [], i, j => i = xs.length ∧ j = ys.length
  | b :: bs, i, j => i ≤ b.i ∧ j ≤ b.j ∧ b.Ok xs ys ∧ Blks xs ys bs (b.i + b.n) (b.j + b.n)
section
variable {P : Program} {w : World} {K : PySem.W.Frag} {mg : Str → Option Value} {base : Heap}
def wordV (i i2 j j2 : Int) : V := if i < i2 then (if j < j2 then .str Wd.rep.s else .str Wd.del.s) else if j < j2 then .str Wd.ins.s else .non
def spWord : Sp := fun vs H Q _ => ∃ i i2 j j2 : Int, vs = [.int i, .int i2, .int j, .int j2] ∧ Q (wordV i i2 j j2) H
theorem sc_word : FnScope ["i", "i2", "j", "j2"] ["i", "i2", "j", "j2"] (defScope sWordBetween) := ⟨rfl, rfl, rfl, by decide +kernel, rfl, by decide +kernel, by decide +kernel⟩
theorem ok_word (T : TX K mg) : C8.Cal P w K mg base 1 "word_between" spWord [] := by
  refine calN T.f_WordBetween T.g_word_between sc_word (fun _ _ _ _ _ _ us hl => match us, hl with | [_, _, _, _], _ => rfl) (fun vs H Q E h => ?_) (fun cdv A outer s H vs Q E hr h => ?_)
  · obtain ⟨i, i2, j, j2, rfl, _⟩ := h
    rfl
  · obtain ⟨i, i2, j, j2, rfl, q⟩ := h
    refine ⟨_, pss_cons (ps_if (PW.pt (pw_and (pt_cmpR op_lt (pv 0) (pv 1) (nomark _)) (pw_and1 (pt_cmpR op_lt (pv 2) (pv 3) (nomark _))))) (pss_one (ps_ret pe_str)) pss_nil)
      (pss_cons (ps_if (pt_cmpR op_lt (pv 0) (pv 1) (nomark _)) (pss_one (ps_ret pe_str)) pss_nil)
      (pss_one (ps_ret (pe_ifExp (pt_cmpR op_lt (pv 2) (pv 3) (nomark _)) pe_str pe_non)))), ?_⟩
    refine ⟨_, rfl, _, rfl, _, _, rfl, rfl, _, rfl, ?_⟩
    unfold wordV at q
    by_cases h1 : i < i2
    · rw [if_pos h1] at q
      rw [decide_eq_true h1]
      refine iteT ⟨_, rfl, _, rfl, _, _, rfl, rfl, _, rfl, ?_⟩
      by_cases h2 : j < j2
      · rw [if_pos h2] at q
        rw [decide_eq_true h2]
        exact iteT q
      · rw [if_neg h2] at q
        rw [decide_eq_false h2]
        refine iteF ⟨_, rfl, _, rfl, _, _, rfl, rfl, _, rfl, ?_⟩
        rw [decide_eq_true h1]
        exact iteT q
    · rw [if_neg h1] at q
      rw [decide_eq_false h1]
      refine iteF (iteF ⟨_, rfl, _, rfl, _, _, rfl, rfl, _, rfl, ?_⟩)
      rw [decide_eq_false h1]
      refine iteF ⟨_, rfl, _, rfl, _, _, rfl, rfl, _, rfl, ?_⟩
      by_cases h2 : j < j2
      · rw [if_pos h2] at q
        rw [decide_eq_true h2]
        exact iteT q
      · rw [if_neg h2] at q
        rw [decide_eq_false h2]
        exact iteF q
theorem code_word {xs ys : List Ln} {b : Blk} {i j : Nat} (h1 : i ≤ b.i) (h2 : j ≤ b.j) (hb : b.Ok xs ys) :
    (wordV i b.i j b.j = .non ∧ i = b.i ∧ j = b.j) ∨ ∃ wd : Wd, wordV i b.i j b.j = .str wd.s ∧ Code.Ok xs ys ⟨wd, i, b.i, j, b.j⟩ := by
  obtain ⟨b1, b2, _⟩ := hb
  unfold wordV
  by_cases e1 : (i : Int) < b.i
  · rw [if_pos e1]
    by_cases e2 : (j : Int) < b.j
    · rw [if_pos e2]
      exact .inr ⟨.rep, rfl, by show b.i ≤ _; omega, by show b.j ≤ _; omega, by show i < b.i; omega, by show j < b.j; omega⟩
    · rw [if_neg e2]
      exact .inr ⟨.del, rfl, by show b.i ≤ _; omega, by show b.j ≤ _; omega, by show i < b.i; omega, by show j = b.j; omega⟩
  · rw [if_neg e1]
    by_cases e2 : (j : Int) < b.j
    · rw [if_pos e2]
      exact .inr ⟨.ins, rfl, by show b.i ≤ _; omega, by show b.j ≤ _; omega, by show i = b.i; omega, by show j < b.j; omega⟩
    · rw [if_neg e2]
      exact .inl ⟨rfl, by omega, by omega⟩
def spCodes (K : PySem.W.Frag) : Sp := fun vs H Q _ => ∃ (a : Addr) (us : List V) (xs ys : List Ln) (bs : List Blk), vs = [.ref a] ∧ SqL K H a us ∧ Paired (TupIs H Blk.v) us bs ∧ Blks xs ys bs 0 0 ∧ bs.length ≤ 1000 ∧
  ∀ (H' : Hp) (p : Addr) (cs : List Code), Same H H' → TupsAt (New H H') Code.v p cs → Lead xs ys cs 0 0 xs.length ys.length → cs.length ≤ 2000 → Q (.ref p) H'
theorem sc_codes : FnScope ["blocks", "found", "i", "j", "begin", "begin2", "size", "word"] ["blocks"] (defScope sCodesBetween) := ⟨rfl, rfl, rfl, by decide +kernel, rfl, by decide +kernel, by decide +kernel⟩
theorem ok_codes (T : TX K mg) (cw : C8.Cal P w K mg base 1 "word_between" spWord []) : C8.Cal P w K mg base 2 "codes_between" (spCodes K) [] := by
  refine calN T.f_CodesBetween T.g_codes_between sc_codes (fun _ _ _ _ _ _ us hl => match us, hl with | [_], _ => rfl) (fun vs H Q E h => ?_) (fun cdv A outer s H vs Q E hr h => ?_)
  · obtain ⟨a, us, xs, ys, bs, rfl, _⟩ := h
    rfl
  · obtain ⟨a, us, xs, ys, bs, rfl, hS, hP, hB, hlen, k⟩ := h
    have nd := sc_codes.nd
    refine ⟨_, (pss_cons (ps_set (i := 1) nd rfl (.inl rfl) (pe_lst pa_nil))
  (pss_cons (ps_asg (pe_tup (pa_cons pe_int (pa_cons pe_int pa_nil))) (pg_tup (by rfl) (pgs_cons (pg_name (i := 2) nd rfl (.inl rfl)) (pgs_cons (pg_name (i := 3) nd rfl (.inl rfl)) pgs_nil))))
  (pss_cons (ps_for PassesOwn.never rfl (pi_list (pv 0)) (pg_tup (by rfl) (pgs_cons (pg_name (i := 4) nd rfl (.inl rfl)) (pgs_cons (pg_name (i := 5) nd rfl (.inl rfl)) (pgs_cons (pg_name (i := 6) nd rfl (.inl rfl)) pgs_nil))))
  (pss_cons (ps_set (i := 7) nd rfl (.inl rfl) (C8.pe_c cw hr (by decide) rfl (pa_cons (pv 2) (pa_cons (pv 4) (pa_cons (pv 3) (pa_cons (pv 5) pa_nil))))))
  (C8.pss_cut (ps_if (pt_cmpR op_notN (pv 7) pe_non (nomark _)) (pss_one (ps_expr (pe_bm PySem.F.plainAttrs_list PySem.F.slot_list_append PySem.F.type_list_append mt_append (pv 1) (pa_cons (pe_tup (pa_cons (pv 7) (pa_cons (pv 2) (pa_cons (pv 4) (pa_cons (pv 3) (pa_cons (pv 5) pa_nil)))))) pa_nil)))) pss_nil)
  (pss_cons (ps_par (i := 2) (j := 3) (by rfl) nd rfl rfl (by decide) rfl rfl (pa_cons (pe_op op_add (pv 4) (pv 6)) (pa_cons (pe_op op_add (pv 5) (pv 6)) pa_nil)) (by rfl))
  (pss_one (ps_if (pt_cmpR op_gt (pv 6) pe_int (nomark _)) (pss_one (ps_expr (pe_bm PySem.F.plainAttrs_list PySem.F.slot_list_append PySem.F.type_list_append mt_append (pv 1) (pa_cons (pe_tup (pa_cons pe_str (pa_cons (pv 4) (pa_cons (pv 2) (pa_cons (pv 5) (pa_cons (pv 3) pa_nil)))))) pa_nil)))) pss_nil))))))
  (pss_one (ps_ret (pv 1)))))), ?_⟩
    refine ⟨Nat.zero_le _, fun f hf => ⟨by decide, fun c0 hc0 => ⟨c0, _, rfl, SqT.of upd_same, rfl, _, _, rfl, _, _, rfl, rfl, ?_⟩⟩⟩
    have B0 : Bld H (upd (upd H f (.lst [])) c0 (.tup [V.int 0, V.int 0])) f [] := (Bld.start (Same.refl H) hf).new hc0
    refine ⟨_, rfl, a, rfl, ⟨_, B0.same.seq hS⟩, for_list (K := K) (a := a) (xs := us) (fun k σ H' => ∃ (cs : List Code) (gs : List V) (i j : Nat) (u4 u5 u6 u7 : Option V),
      σ = [some (.ref a), some (.ref f), some (.int i), some (.int j), u4, u5, u6, u7] ∧ Bld H H' f gs ∧ Paired (TupIs (Own H [f] H') Code.v) gs cs ∧ Lead xs ys cs 0 0 i j ∧ Blks xs ys (bs.drop k) i j ∧ cs.length ≤ 2 * k)
      ⟨[], [], 0, 0, _, _, _, _, rfl, B0, .nil, ⟨rfl, rfl⟩, hB, Nat.le_refl _⟩ ?_ ?_ ?_⟩
    · rintro i σ H' _ ⟨cs, gs, _, _, _, _, _, _, _, B, _⟩
      exact B.same.seq hS
    · rintro n x σ H' hx ⟨cs, gs, i, j, u4, u5, u6, u7, rfl, B, hC, hL, hb, hl⟩
      obtain ⟨b, hbn, T0, rfl, hT⟩ := Paired.at_ hP hx
      rw [drop_at hbn] at hb
      obtain ⟨l1, l2, bo, hb⟩ := hb
      have hn : n < 1000 := Nat.lt_of_lt_of_le (List.getElem?_eq_some_iff.mp hbn).1 hlen
      have hT' : SqT K H' T0 b.v := SqT.of (B.same _ _ hT)
      refine ⟨T0, _, rfl, hT', rfl, _, _, rfl, _, _, rfl, _, _, rfl, rfl, ?_⟩
      refine ⟨_, rfl, _, rfl, _, rfl, _, rfl, i, b.i, j, b.j, rfl, ?_⟩
      have hgl : gs.length = cs.length := Paired.length hC
      have line : ∀ {gs : List V} {cs : List Code}, gs.length = cs.length → cs.length ≤ 2 * n + 1 → gs.length < sizeLine := fun {gs cs} e1 e2 => by
        rw [sizeLine_eq]
        omega
      refine ⟨fun σ H2 => ∃ (gs : List V) (cs : List Code) (u7 : Option V), σ = [some (.ref a), some (.ref f), some (.int i), some (.int j), some (.int b.i), some (.int b.j), some (.int b.n), u7] ∧
        Bld H H2 f gs ∧ Paired (TupIs (Own H [f] H2) Code.v) gs cs ∧ Lead xs ys cs 0 0 b.i b.j ∧ cs.length ≤ 2 * n + 1, ?_, ?_⟩
      · refine ⟨_, rfl, rfl, _, rfl, ?_⟩
        rcases code_word l1 l2 bo with ⟨e, e1, e2⟩ | ⟨wd, e, ok⟩
        · rw [e]
          refine iteF ⟨gs, cs, _, rfl, B, hC, ?_, by omega⟩
          rw [← e1, ← e2]
          exact hL
        · rw [e]
          refine iteT ⟨_, rfl, .inl ⟨rfl, _, SqL.of B.at_⟩, _, rfl, _, rfl, _, rfl, _, rfl, _, rfl, sl5, fun p hp => ⟨f, gs, _, rfl, rfl, (B.new hp).at_, line hgl (by omega), ?_⟩⟩
          obtain ⟨B2, hC2⟩ := B.pushT (c := ⟨wd, i, b.i, j, b.j⟩) hp hC
          refine ⟨_, _, _, rfl, B2, hC2, hL.snoc rfl rfl ok, ?_⟩
          rw [List.length_append, List.length_singleton]
          omega
      · rintro σ H2 ⟨gs, cs, u7, rfl, B, hC, hL, hl⟩
        refine ⟨_, rfl, _, rfl, _, _, rfl, rfl, _, rfl, _, rfl, _, _, rfl, rfl, _, _, rfl, ?_⟩
        refine ⟨_, rfl, _, _, rfl, rfl, _, rfl, iteD (fun hp => ?_) fun hp => ?_⟩
        · refine ⟨_, rfl, .inl ⟨rfl, _, SqL.of B.at_⟩, _, rfl, _, rfl, _, rfl, _, rfl, sl5, fun p hp2 => ⟨f, gs, _, rfl, rfl, (B.new hp2).at_, line (Paired.length hC) hl, ?_⟩⟩
          obtain ⟨B2, hC2⟩ := B.pushT (c := ⟨.eq, b.i, b.i + b.n, b.j, b.j + b.n⟩) hp2 hC
          refine ⟨_, _, b.i + b.n, b.j + b.n, _, _, _, _, rfl, B2, hC2, hL.snoc rfl rfl ⟨bo.1, bo.2.1, ?_⟩, hb, ?_⟩
          · have hn0 : 0 < b.n := by omega
            refine ⟨?_, ?_, ?_, fun t ht => bo.2.2 t ?_⟩
            · show b.i < b.i + b.n
              omega
            · show b.i + b.n - b.i = b.j + b.n - b.j
              omega
            · show b.j < b.j + b.n
              omega
            · have ht : t < b.i + b.n - b.i := ht
              omega
          · rw [List.length_append, List.length_singleton]
            omega
        · have e : b.n = 0 := by omega
          refine ⟨cs, gs, b.i + b.n, b.j + b.n, _, _, _, _, rfl, B, hC, ?_, hb, by omega⟩
          rw [e]
          exact hL
    · rintro σ H' ⟨cs, gs, i, j, _, _, _, _, rfl, B, hC, hL, hb, hl⟩
      have e : bs.drop us.length = [] := by rw [Paired.length hP]; exact List.drop_length
      rw [e] at hb
      obtain ⟨rfl, rfl⟩ := hb
      have hu : us.length ≤ 1000 := by rw [Paired.length hP]; exact hlen
      exact ⟨_, rfl, k _ f cs B.same ⟨gs, B.done, tups_mono hC own_one⟩ hL (by omega)⟩
end
end TwK

set_option Elab.async false
set_option linter.all false
set_option maxRecDepth 100000
set_option maxHeartbeats 2000000
set_option pp.deepTerms false
set_option pp.deepTerms.threshold 6
namespace TwK
open PySem PySem.Spec PyProof.Rows L2 SX
/-! ### the Matcher -/
def mf (jv : V) (a b d j p : Addr) : List (Str × V) := [("is_junk", jv), ("auto", .bl true), ("first", .ref a), ("second", .ref b), ("found", .ref d), ("junk", .ref j), ("popular", .ref p)]
section
variable {jv : V} {a b d j p : Addr}
theorem mf_junkf : (mf jv a b d j p).lookup ("is_junk" : Str) = some jv := by kernel_rfl
theorem mf_auto : (mf jv a b d j p).lookup ("auto" : Str) = some (.bl true) := by kernel_rfl
theorem mf_first : (mf jv a b d j p).lookup ("first" : Str) = some (.ref a) := by kernel_rfl
theorem mf_second : (mf jv a b d j p).lookup ("second" : Str) = some (.ref b) := by kernel_rfl
theorem mf_found : (mf jv a b d j p).lookup ("found" : Str) = some (.ref d) := by kernel_rfl
theorem mf_junk : (mf jv a b d j p).lookup ("junk" : Str) = some (.ref j) := by kernel_rfl
theorem mf_pop : (mf jv a b d j p).lookup ("popular" : Str) = some (.ref p) := by kernel_rfl
theorem mf_put1 (v : Addr) : putF "first" (.ref v) (mf jv a b d j p) = mf jv v b d j p := by kernel_rfl
theorem mf_put2 (v : Addr) : putF "second" (.ref v) (mf jv a b d j p) = mf jv a v d j p := by kernel_rfl
theorem mf_put3 (v : Addr) : putF "found" (.ref v) (mf jv a b d j p) = mf jv a b v j p := by kernel_rfl
theorem mf_put4 (v : Addr) : putF "junk" (.ref v) (mf jv a b d j p) = mf jv a b d v p := by kernel_rfl
theorem mf_put5 (v : Addr) : putF "popular" (.ref v) (mf jv a b d j p) = mf jv a b d j v := by kernel_rfl
theorem mf_len : (mf jv a b d j p).length < 1000 := by show 7 < 1000; decide
theorem mf_no1 : (mf jv a b d j p).lookup ("set_one" : Str) = none := by kernel_rfl
theorem mf_no2 : (mf jv a b d j p).lookup ("set_other" : Str) = none := by kernel_rfl
theorem mf_no3 : (mf jv a b d j p).lookup ("begun" : Str) = none := by kernel_rfl
theorem mf_no4 : (mf jv a b d j p).lookup ("grown" : Str) = none := by kernel_rfl
theorem mf_no5 : (mf jv a b d j p).lookup ("goes_on" : Str) = none := by kernel_rfl
theorem mf_no6 : (mf jv a b d j p).lookup ("longest_match" : Str) = none := by kernel_rfl
theorem mf_no7 : (mf jv a b d j p).lookup ("blocks" : Str) = none := by kernel_rfl
theorem mf_no8 : (mf jv a b d j p).lookup ("codes" : Str) = none := by kernel_rfl
theorem mf_no9 : (mf jv a b d j p).lookup ("whole" : Str) = none := by kernel_rfl
theorem mf_no10 : (mf jv a b d j p).lookup ("ratio" : Str) = none := by kernel_rfl
end
abbrev iv (n : Nat) : V := .int (n : Int)
/-- where each thing of ys stands -/
def FoundOk (H : Hp) (ys : List Ln) (kvs : List (Key × V)) : Prop := ∀ p ∈ kvs, ∃ (l : Ln) (q : Addr) (js : List Nat), p = (.inr (S l), .ref q) ∧ H q = some (.lst (js.map iv)) ∧ js ≠ [] ∧ js.length ≤ 1000 ∧ l ∈ ys ∧ ∀ j ∈ js, ys[j]? = some l
theorem FoundOk.mono {H H' : Hp} {ys : List Ln} {kvs : List (Key × V)} (f : FoundOk H ys kvs) (s : Same H H') : FoundOk H' ys kvs := fun p hp => by
  obtain ⟨l, q, js, e, h, r⟩ := f p hp
  exact ⟨l, q, js, e, s _ _ h, r⟩
structure Sm (xs : List Ln) : Prop where
  len : xs.length ≤ 60
  el : ∀ l ∈ xs, l ≠ [] ∧ l.length ≤ 1000
/-- a Matcher of xs and ys stands at m -/
structure MAt' (K : PySem.W.Frag) (H : Hp) (m : Addr) (xs ys : List Ln) (dx : Addr) (jv : V) (a b d j p : Addr) (kvs : List (Key × V)) (js : List Ln) : Prop where
  ob : H m = some (.ins (He.ga K "Matcher") dx (mf jv a b d j p))
  one : H a = some (.tup (xs.map tv))
  oth : H b = some (.tup (ys.map tv))
  fd : H d = some (.dK kvs)
  fo : FoundOk H ys kvs
  jk : H j = some (.lst (js.map tv))
  jf : JunkV K H jv
def MAt (K : PySem.W.Frag) (H : Hp) (m : Addr) (xs ys : List Ln) : Prop := ∃ dx jv a b d j p kvs js, MAt' K H m xs ys dx jv a b d j p kvs js
theorem MAt.mono {K : PySem.W.Frag} {H H' : Hp} {m : Addr} {xs ys : List Ln} (h : MAt K H m xs ys) (s : Same H H') : MAt K H' m xs ys := by
  obtain ⟨dx, jv, a, b, d, j, p, kvs, js, h⟩ := h
  exact ⟨dx, jv, a, b, d, j, p, kvs, js, s _ _ h.ob, s _ _ h.one, s _ _ h.oth, s _ _ h.fd, h.fo.mono s, s _ _ h.jk, h.jf.mono s⟩
theorem map_at {α β : Type} {f : α → β} {l : List α} {i : Nat} {x : α} (h : l[i]? = some x) : (l.map f)[i]? = some (f x) := by rw [List.getElem?_map, h]; rfl
theorem map_at' {α β : Type} {f : α → β} {l : List α} {i : Nat} {y : β} (h : (l.map f)[i]? = some y) : ∃ x, l[i]? = some x ∧ f x = y := by
  rw [List.getElem?_map] at h
  cases e : l[i]? with
  | none => rw [e] at h; cases h
  | some x => rw [e] at h; exact ⟨x, rfl, Option.some.inj h⟩
/-! ### a dict's keys -/
theorem val_mem {κ : Type} [DecidableEq κ] {kvs : List (κ × V)} {k : κ} {v : V} (h : valV kvs k = some v) : (k, v) ∈ kvs := by
  unfold valV at h
  cases e : kvs.find? (fun kv => decide (kv.1 = k)) with
  | none => rw [e] at h; cases h
  | some q =>
    rw [e] at h
    have h1 : q.2 = v := Option.some.inj h
    have h2 := List.find?_some e
    have h3 := List.mem_of_find?_eq_some e
    have h4 : q.1 = k := of_decide_eq_true h2
    rw [← h1, ← h4]
    exact h3
/-! ### a block within bounds -/
structure BIn (xs ys : List Ln) (lo hi lo2 hi2 : Nat) (b : Blk) : Prop where
  a1 : lo ≤ b.i
  a2 : b.i + b.n ≤ hi
  b1 : lo2 ≤ b.j
  b2 : b.j + b.n ≤ hi2
  eq : ∀ t, t < b.n → xs[b.i + t]? = ys[b.j + t]?
/-- what ends just ahead of row i -/
def EndsOk (xs ys : List Ln) (lo lo2 i : Nat) (kvs : List (Key × V)) : Prop := ∀ (k : Int) (v : V), valV kvs (.inl k) = some v → ∃ j n : Nat, k = j ∧ v = iv n ∧ lo + n ≤ i ∧ lo2 + n ≤ j + 1 ∧ ∀ t, t < n → xs[i - n + t]? = ys[j + 1 - n + t]?
theorem EndsOk.nil {xs ys : List Ln} {lo lo2 i : Nat} : EndsOk xs ys lo lo2 i [] := fun k v h => by cases h
/-- one more -/
theorem ends_step {xs ys : List Ln} {lo lo2 i j n : Nat} {kE : List (Key × V)} {x : Ln} (hE : EndsOk xs ys lo lo2 i kE) (hx : xs[i]? = some x) (hy : ys[j]? = some x) (hi : lo ≤ i) (hj : lo2 ≤ j)
    (hn : ((valV kE (.inl ((j : Int) - 1))).getD (iv 0)) = iv n) : lo + n ≤ i ∧ lo2 + n ≤ j ∧ ∀ t, t < n + 1 → xs[i - n + t]? = ys[j - n + t]? := by
  have last : ∀ t, t = n → n ≤ i → n ≤ j → xs[i - n + t]? = ys[j - n + t]? := fun t e h1 h2 => by
    rw [e, show i - n + n = i by omega, show j - n + n = j by omega, hx, hy]
  cases e : valV kE (.inl ((j : Int) - 1)) with
  | none =>
    rw [e] at hn
    have e0 : (0 : Int) = (n : Int) := by
      have q : V.int ((0 : Nat) : Int) = V.int (n : Int) := hn
      injection q with q
    have e0 : n = 0 := by omega
    exact ⟨by omega, by omega, fun t ht => last t (by omega) (by omega) (by omega)⟩
  | some v =>
    obtain ⟨j', n', e1, e2, e3, e4, e5⟩ := hE _ v e
    rw [e] at hn
    have q : V.int ((n' : Nat) : Int) = V.int (n : Int) := e2.symm.trans hn
    have en : n' = n := by
      injection q with q
      omega
    subst en
    have ej : j = j' + 1 := by omega
    subst ej
    refine ⟨e3, e4, fun t ht => ?_⟩
    by_cases h : t = n'
    · exact last t h (by omega) (by omega)
    · exact e5 t (by omega)
theorem ends_put {xs ys : List Ln} {lo lo2 i j n : Nat} {kF : List (Key × V)} (hF : EndsOk xs ys lo lo2 (i + 1) kF) (h1 : lo + n ≤ i) (h2 : lo2 + n ≤ j) (h : ∀ t, t < n + 1 → xs[i - n + t]? = ys[j - n + t]?) :
    EndsOk xs ys lo lo2 (i + 1) (putK kF (.inl (j : Int)) (iv (n + 1))) := fun k v hv => by
  rw [valV_put] at hv
  by_cases e : (Sum.inl k : Key) = .inl (j : Int)
  · rw [if_pos e] at hv
    have ek : k = j := by injection e
    exact ⟨j, n + 1, ek, (Option.some.inj hv).symm, by omega, by omega, fun t ht => by
      rw [show i + 1 - (n + 1) = i - n by omega, show j + 1 - (n + 1) = j - n by omega]
      exact h t ht⟩
  · rw [if_neg e] at hv
    exact hF k v hv
section
variable {P : Program} {w : World} {K : PySem.W.Frag} {mg : Str → Option Value} {base : Heap}
theorem sc_begun : FnScope ["self", "low", "high", "low2", "high2", "best", "ends", "i", "fresh", "j", "size"] ["self", "low", "high", "low2", "high2"] (defScope sMBegun) := ⟨rfl, rfl, rfl, by decide +kernel, rfl, by decide +kernel, by decide +kernel⟩
def spBegun (K : PySem.W.Frag) : Sp := fun vs H Q _ => ∃ (m : Addr) (xs ys : List Ln) (lo hi lo2 hi2 : Nat), vs = [.ref m, iv lo, iv hi, iv lo2, iv hi2] ∧ MAt K H m xs ys ∧ xs.length ≤ 1000 ∧ ys.length ≤ 1000 ∧ lo ≤ hi ∧ hi ≤ xs.length ∧ lo2 ≤ hi2 ∧ hi2 ≤ ys.length ∧
  ∀ (H' : Hp) (p : Addr) (b : Blk), Same H H' → H' p = some (.tup b.v) → BIn xs ys lo hi lo2 hi2 b → Q (.ref p) H'
theorem ok_begun (T : TX K mg) : C8.Met P w K mg base 1 (He.ga K "Matcher") "begun" (spBegun K) [] := by
  refine metN T.f_MBegun T.c_Matcher T.me_Matcher_begun sc_begun (fun _ _ _ _ _ _ us hl => match us, hl with | [_, _, _, _, _], _ => rfl) (fun vs H Q E h => ?_) (fun cdv A outer s H vs Q E hr h => ?_)
  · obtain ⟨m, xs, ys, lo, hi, lo2, hi2, rfl, _⟩ := h
    rfl
  · obtain ⟨m, xs, ys, lo, hi, lo2, hi2, rfl, M, hX, hY, l1, l2, l3, l4, k⟩ := h
    obtain ⟨dx, jv, a, b, d, j, p, kvs, js, M⟩ := M
    have nd := sc_begun.nd
    refine ⟨_, (pss_cons (ps_set (i := 5) nd rfl (.inl rfl) (pe_tup (pa_cons (pv 1) (pa_cons (pv 3) (pa_cons pe_int pa_nil)))))
  (pss_cons (ps_set (i := 6) nd rfl (.inl rfl) pe_dnewK)
  (pss_cons (ps_for PassesOwn.never rfl (pi_range2 (by rfl) T.n_range (pa_cons (pv 1) (pa_cons (pv 2) pa_nil))) (pg_name (i := 7) nd rfl (.inl rfl))
  (pss_cons (ps_set (i := 8) nd rfl (.inl rfl) pe_dnewK)
  (C8.pss_cut (ps_for PassesOwn.never rfl (pi_list (pe_dget2 (hu_of hr) (pe_fld (pv 0) (by rfl)) (pe_ix ix_tup (pe_fld (pv 0) (by rfl)) (pv 7) (fun _ _ => rfl)) (pe_lst pa_nil) ⟨rfl, rfl, rfl, rfl⟩)) (pg_name (i := 9) nd rfl (.inl rfl))
  (pss_one (ps_if (pt_chain op_le op_lt (pv 3) (pv 9) (pv 4)) (pss_cons (ps_set (i := 10) nd rfl (.inl rfl) (pe_op op_add (pe_dget2 (hu_of hr) (pv 6) (pe_op op_sub (pv 9) pe_int) pe_int ⟨rfl, rfl, rfl, rfl⟩) pe_int))
  (pss_cons (ps_dput (hu_of hr) (pv 8) (pv 9) (pv 10) rfl)
  (pss_one (ps_if (pt_cmpR op_gt (pv 10) (pe_ix ix_tup (pv 5) pe_int (fun _ _ => rfl)) (nomark _)) (pss_one (ps_set (i := 5) nd rfl (.inl rfl) (pe_tup (pa_cons (pe_op op_add (pe_op op_sub (pv 7) (pv 10)) pe_int) (pa_cons (pe_op op_add (pe_op op_sub (pv 9) (pv 10)) pe_int) (pa_cons (pv 10) pa_nil)))))) pss_nil)))) pss_nil)))
  (pss_one (ps_set (i := 6) nd rfl (.inl rfl) (pv 8))))))
  (pss_one (ps_ret (pv 5)))))), ?_⟩
    refine ⟨_, rfl, _, rfl, sl3, fun bp hbp e he => ?_⟩
    have s0 : Same H (upd (upd H bp (.tup [iv lo, iv lo2, .int 0])) e (.dK [])) := (same_new hbp).trans (same_new he)
    have big : ∀ n : Nat, n ≤ 1000 → -(2 ^ 62) ≤ (n : Int) ∧ (n : Int) < 2 ^ 62 := fun n hn => by omega
    refine ⟨_, rfl, _, rfl, lo, hi, rfl, ⟨(big lo (by omega)).1, (big lo (by omega)).2, (big hi (by omega)).1, (big hi (by omega)).2⟩, for_range (lo := (lo : Int)) (n := ((hi : Int) - lo).toNat) (fun t σ H' => ∃ (bp e : Addr) (kE : List (Key × V)) (bb : Blk) (u7 u8 u9 u10 : Option V),
      σ = [some (.ref m), some (iv lo), some (iv hi), some (iv lo2), some (iv hi2), some (.ref bp), some (.ref e), u7, u8, u9, u10] ∧ Same H H' ∧ H' bp = some (.tup bb.v) ∧ BIn xs ys lo hi lo2 hi2 bb ∧ H' e = some (.dK kE) ∧ EndsOk xs ys lo lo2 (lo + t) kE)
      ⟨bp, e, [], ⟨lo, lo2, 0⟩, _, _, _, _, rfl, s0, ?_, ⟨Nat.le_refl _, l1, Nat.le_refl _, l3, fun t ht => absurd ht (Nat.not_lt_zero _)⟩, upd_same, EndsOk.nil⟩ ?_ ?_⟩
    · rw [upd_ne (ne_of_none upd_same he)]
      exact upd_same
    · rintro t σ H' ht ⟨bp, e, kE, bb, u7, u8, u9, u10, rfl, sm, hbp, hbb, hE, oE⟩
      refine fun fr hfr => ?_
      have hf0 : H fr = none := sm.free hfr
      have hi' : lo + t < xs.length := by omega
      have hx : xs[lo + t]? = some (xs[lo + t]) := List.getElem?_eq_getElem hi'
      refine ⟨fun σ H2 => ∃ (bp : Addr) (bb : Blk) (kF : List (Key × V)) (u9 u10 : Option V), σ = [some (.ref m), some (iv lo), some (iv hi), some (iv lo2), some (iv hi2), some (.ref bp), some (.ref e), some (.int ((lo : Int) + (t : Nat))), some (.ref fr), u9, u10] ∧
        Same H H2 ∧ H2 bp = some (.tup bb.v) ∧ BIn xs ys lo hi lo2 hi2 bb ∧ H2 fr = some (.dK kF) ∧ EndsOk xs ys lo lo2 (lo + t + 1) kF, ?_, ?_⟩
      · have sm1 : Same H (upd H' fr (.dK [])) := sm.trans (same_new hfr)
        have hm1 := sm1 _ _ M.ob
        have efr : e ≠ fr := ne_of_none hE hfr
        refine ⟨_, rfl, m, _, dx, _, _, rfl, hm1, T.c_Matcher, T.no_Matcher_found, mf_found, d, rfl, .inl ⟨kvs, Rd.of (sm1 _ _ M.fd)⟩, _, rfl, m, _, dx, _, _, rfl, hm1, T.c_Matcher, T.no_Matcher_first, mf_first, _, rfl,
          a, _, _, _, rfl, rfl, SqT.of (sm1 _ _ M.one), at_of (j := lo + t) (by omega) (map_at hx), Nat.zero_le _, fun q0 hq0 => ?_⟩
        have sm2 := sm1.trans (same_new (o := .lst []) hq0)
        refine ⟨valV kvs (.inr (S (xs[lo + t]))), DGet.k (k := .inr (S (xs[lo + t]))) (sm2 _ _ M.fd), ?_⟩
        obtain ⟨q, jn, eq, hq, hjl, hjm⟩ : ∃ (q : Addr) (jn : List Nat), (valV kvs (.inr (S (xs[lo + t])))).getD (V.ref q0) = .ref q ∧ upd (upd H' fr (.dK [])) q0 (.lst []) q = some (.lst (jn.map iv)) ∧ jn.length ≤ 1000 ∧ ∀ j ∈ jn, ys[j]? = some (xs[lo + t]) := by
          cases ev : valV kvs (.inr (S (xs[lo + t]))) with
          | none => exact ⟨q0, [], rfl, upd_same, Nat.zero_le _, fun j hj => nomatch hj⟩
          | some v =>
            obtain ⟨l, q, js', e1, e2, _, e3, _, e4⟩ := M.fo _ (val_mem ev)
            injection e1 with e5 e6
            have e7 : xs[lo + t] = l := S_inj (Sum.inr.inj e5)
            subst e6
            rw [e7]
            exact ⟨q, js', rfl, sm2 _ _ e2, e3, e4⟩
        rw [eq]
        have n0 : ∀ {x : Addr} {o : HO}, upd H' fr (.dK []) x = some o → upd (upd H' fr (.dK [])) q0 (.lst []) x = some o := fun h => same_new hq0 _ _ h
        have hqf : q ≠ fr := ne_of hq (n0 upd_same) (by intro z; cases z)
        refine ⟨q, rfl, ⟨_, SqL.of hq⟩, for_list (K := K) (a := q) (xs := jn.map iv) (fun c σ H2 => ∃ (bp : Addr) (bb : Blk) (kF : List (Key × V)) (u9 u10 : Option V), σ = [some (.ref m), some (iv lo), some (iv hi), some (iv lo2), some (iv hi2), some (.ref bp), some (.ref e), some (.int ((lo : Int) + (t : Nat))), some (.ref fr), u9, u10] ∧
            Same H H2 ∧ H2 bp = some (.tup bb.v) ∧ BIn xs ys lo hi lo2 hi2 bb ∧ H2 fr = some (.dK kF) ∧ EndsOk xs ys lo lo2 (lo + t + 1) kF ∧ H2 e = some (.dK kE) ∧ H2 q = some (.lst (jn.map iv)) ∧ kF.length ≤ c)
          ⟨bp, bb, [], _, _, rfl, sm2, n0 (by rw [upd_ne (ne_of_none hbp hfr)]; exact hbp), hbb, n0 upd_same, EndsOk.nil, n0 (by rw [upd_ne efr]; exact hE), hq, Nat.le_refl _⟩ ?_ ?_ ?_⟩
        · rintro i σ H2 _ ⟨_, _, _, _, _, _, _, _, _, _, _, _, hq, _⟩
          exact SqL.of hq
        · rintro c x σ H2 hc ⟨bp, bb, kF, u9, u10, rfl, sm, hbp, hbb, hF, oF, hE, hq, hkl⟩
          obtain ⟨jj, hj, rfl⟩ := map_at' hc
          have hcl : c < jn.length := (List.getElem?_eq_some_iff.mp hj).1
          have hy := hjm jj (List.mem_of_getElem? hj)
          have hjy : jj < ys.length := (List.getElem?_eq_some_iff.mp hy).1
          refine ⟨_, rfl, _, rfl, _, _, rfl, rfl, _, rfl, ?_⟩
          refine iteD (fun c1 => ⟨_, rfl, _, _, rfl, rfl, _, rfl, iteD (fun c2 => ?_) fun c2 => ⟨bp, bb, kF, _, _, rfl, sm, hbp, hbb, hF, oF, hE, hq, by omega⟩⟩) fun c1 => ⟨_, rfl, iteF ⟨bp, bb, kF, _, _, rfl, sm, hbp, hbb, hF, oF, hE, hq, by omega⟩⟩
          obtain ⟨n, hn⟩ : ∃ n : Nat, (valV kE (.inl ((jj : Int) - 1))).getD (V.int 0) = iv n := by
            cases ev : valV kE (.inl ((jj : Int) - 1)) with
            | none => exact ⟨0, rfl⟩
            | some v =>
              obtain ⟨_, n, _, e2, _⟩ := oE _ v ev
              exact ⟨n, e2⟩
          obtain ⟨g1, g2, g3⟩ := ends_step (j := jj) (n := n) oE hx hy (by omega) (by omega) hn
          refine ⟨_, rfl, e, rfl, .inl ⟨kE, Rd.of hE⟩, _, rfl, _, _, rfl, rfl, valV kE (.inl ((jj : Int) - 1)), DGet.k (k := .inl ((jj : Int) - 1)) hE, _, _, hn, rfl, ?_⟩
          have hkl' : kF.length < sizeLine := by rw [sizeLine_eq]; omega
          refine ⟨_, rfl, _, rfl, _, rfl, fr, _, rfl, DPut.k (k := .inl (jj : Int)) hF hkl', ?_⟩
          have sm' : Same H (upd H2 fr (.dK (putK kF (.inl (jj : Int)) (iv (n + 1))))) := same_put hf0 sm
          have oF' := ends_put (j := jj) oF g1 g2 g3
          have bpf : bp ≠ fr := ne_of hbp hF (by intro z; cases z)
          have kl2 : (putK kF (.inl (jj : Int)) (iv (n + 1))).length ≤ c + 1 := Nat.le_trans (length_putK _ _ _) (by omega)
          have hbp' : upd H2 fr (.dK (putK kF (.inl (jj : Int)) (iv (n + 1)))) bp = some (.tup bb.v) := by rw [upd_ne bpf]; exact hbp
          have hE' : upd H2 fr (.dK (putK kF (.inl (jj : Int)) (iv (n + 1)))) e = some (.dK kE) := by rw [upd_ne efr]; exact hE
          have hq' : upd H2 fr (.dK (putK kF (.inl (jj : Int)) (iv (n + 1)))) q = some (.lst (jn.map iv)) := by rw [upd_ne hqf]; exact hq
          refine ⟨_, rfl, _, rfl, bp, _, _, _, rfl, rfl, SqT.of hbp', at_of (j := 2) rfl rfl, _, _, rfl, rfl, _, rfl, iteD (fun c3 => ?_) fun c3 => ⟨bp, bb, _, _, _, rfl, sm', hbp', hbb, upd_same, oF', hE', hq', kl2⟩⟩
          refine ⟨_, rfl, _, rfl, _, _, rfl, rfl, _, _, rfl, rfl, _, rfl, _, rfl, _, _, rfl, rfl, _, _, rfl, rfl, _, rfl, sl3, fun p hp => ?_⟩
          have ev : Blk.v ⟨lo + t - n, jj - n, n + 1⟩ = [V.int ((lo : Int) + (t : Nat) - ((n : Int) + 1) + 1), V.int ((jj : Int) - ((n : Int) + 1) + 1), V.int ((n : Int) + 1)] := by
            show [V.int ((lo + t - n : Nat) : Int), V.int ((jj - n : Nat) : Int), V.int ((n + 1 : Nat) : Int)] = _
            rw [show ((lo + t - n : Nat) : Int) = (lo : Int) + (t : Nat) - ((n : Int) + 1) + 1 by omega, show ((jj - n : Nat) : Int) = (jj : Int) - ((n : Int) + 1) + 1 by omega, show ((n + 1 : Nat) : Int) = (n : Int) + 1 by omega]
          have keep : ∀ {x : Addr} {o o' : HO}, upd H2 fr (.dK (putK kF (.inl (jj : Int)) (iv (n + 1)))) x = some o → upd (upd H2 fr (.dK (putK kF (.inl (jj : Int)) (iv (n + 1))))) p o' x = some o := fun h => same_new hp _ _ h
          refine ⟨p, ⟨lo + t - n, jj - n, n + 1⟩, _, _, _, rfl, sm'.trans (same_new hp), ?_, ⟨?_, ?_, ?_, ?_, g3⟩, keep upd_same, oF', keep hE', keep hq', kl2⟩
          · rw [ev]
            exact upd_same
          · show lo ≤ lo + t - n
            omega
          · show lo + t - n + (n + 1) ≤ hi
            omega
          · show lo2 ≤ jj - n
            omega
          · show jj - n + (n + 1) ≤ hi2
            omega
        · rintro σ H2 ⟨bp, bb, kF, u9, u10, rfl, sm, hbp, hbb, hF, oF, _⟩
          exact ⟨bp, bb, kF, u9, u10, rfl, sm, hbp, hbb, hF, oF⟩
      · rintro σ H2 ⟨bp, bb, kF, u9, u10, rfl, sm, hbp, hbb, hF, oF⟩
        exact ⟨_, rfl, bp, fr, kF, bb, _, _, _, _, rfl, sm, hbp, hbb, hF, by rw [show lo + (t + 1) = lo + t + 1 by omega]; exact oF⟩
    · rintro σ H' ⟨bp, e, kE, bb, u7, u8, u9, u10, rfl, sm, hbp, hbb, hE, oE⟩
      exact ⟨_, rfl, k H' bp bb sm hbp hbb⟩
end
end TwK

set_option Elab.async false
set_option linter.all false
set_option maxRecDepth 100000
set_option maxHeartbeats 2000000
set_option pp.deepTerms false
set_option pp.deepTerms.threshold 6
namespace TwK
open PySem PySem.Spec PyProof.Rows L2 SX
section
variable {P : Program} {w : World} {K : PySem.W.Frag} {mg : Str → Option Value} {base : Heap}
/-! ### goes_on, grown, longest_match -/
theorem sc_goes : FnScope ["self", "i", "j", "by_junk"] ["self", "i", "j", "by_junk"] (defScope sMGoesOn) := ⟨rfl, rfl, rfl, by decide +kernel, rfl, by decide +kernel, by decide +kernel⟩
def spGoes (K : PySem.W.Frag) : Sp := fun vs H Q _ => ∃ (m : Addr) (xs ys : List Ln) (i' j' : Int) (i j : Nat) (bj : Bool), vs = [.ref m, .int i', .int j', .bl bj] ∧ i' = i ∧ j' = j ∧ MAt K H m xs ys ∧ i < xs.length ∧ j < ys.length ∧
  ∀ b : Bool, (b = true → xs[i]? = ys[j]?) → Q (.bl b) H
theorem ok_goes (T : TX K mg) : C8.Met P w K mg base 1 (He.ga K "Matcher") "goes_on" (spGoes K) [] := by
  refine metN T.f_MGoesOn T.c_Matcher T.me_Matcher_goes_on sc_goes (fun _ _ _ _ _ _ us hl => match us, hl with | [_, _, _, _], _ => rfl) (fun vs H Q E h => ?_) (fun cdv A outer s H vs Q E hr h => ?_)
  · obtain ⟨m, xs, ys, i', j', i, j, bj, rfl, _⟩ := h
    rfl
  · obtain ⟨m, xs, ys, i', j', i, j, bj, rfl, rfl, rfl, M, hi, hj, k⟩ := h
    obtain ⟨dx, jv, a, b, d, jk, p, kvs, js, M⟩ := M
    have hx : xs[i]? = some (xs[i]) := List.getElem?_eq_getElem hi
    have hy : ys[j]? = some (ys[j]) := List.getElem?_eq_getElem hj
    refine ⟨_, (pss_one (ps_ret (pe_and (pe_cmpR op_eq (pe_ix ix_tup (pe_fld (pv 0) (by rfl)) (pv 1) (fun _ _ => rfl)) (pe_ix ix_tup (pe_fld (pv 0) (by rfl)) (pv 2) (fun _ _ => rfl)) (nomark _)) (pe_one (pe_cmpR op_eq (pe_cmpR op_in_seq (pe_ix ix_tup (pe_fld (pv 0) (by rfl)) (pv 2) (fun _ _ => rfl)) (pe_fld (pv 0) (by rfl)) (by rfl)) (pv 3) (nomark _)))))), ?_⟩
    refine ⟨_, rfl, m, _, dx, _, _, rfl, M.ob, T.c_Matcher, T.no_Matcher_first, mf_first, _, rfl, a, _, _, _, rfl, rfl, SqT.of M.one, atI_nat (map_at hx),
      _, rfl, m, _, dx, _, _, rfl, M.ob, T.c_Matcher, T.no_Matcher_second, mf_second, _, rfl, b, _, _, _, rfl, rfl, SqT.of M.oth, atI_nat (map_at hy), rfl, _, rfl, ?_⟩
    refine iteD (fun e => ?_) fun _ => k false fun z => nomatch z
    have exy : xs[i] = ys[j] := by
      have q : V.str (S (xs[i])) = V.str (S (ys[j])) := e
      injection q with q
      exact S_inj q
    refine ⟨_, rfl, m, _, dx, _, _, rfl, M.ob, T.c_Matcher, T.no_Matcher_second, mf_second, _, rfl, b, _, _, _, rfl, rfl, SqT.of M.oth, atI_nat (map_at hy), _, rfl, m, _, dx, _, _, rfl, M.ob, T.c_Matcher, T.no_Matcher_junk, mf_junk,
      jk, _, rfl, .inl (SqL.of M.jk), rfl, flat_tvs js, _, rfl, rfl, k _ fun _ => ?_⟩
    rw [hx, hy, exy]
theorem sc_grown : FnScope ["self", "block", "bounds", "by_junk", "low", "high", "low2", "high2", "i", "j", "size"] ["self", "block", "bounds", "by_junk"] (defScope sMGrown) := ⟨rfl, rfl, rfl, by decide +kernel, rfl, by decide +kernel, by decide +kernel⟩
def spGrown (K : PySem.W.Frag) : Sp := fun vs H Q _ => ∃ (m pb pr : Addr) (xs ys : List Ln) (lo hi lo2 hi2 : Nat) (b : Blk) (bj : Bool), vs = [.ref m, .ref pb, .ref pr, .bl bj] ∧ MAt K H m xs ys ∧ H pb = some (.tup b.v) ∧ H pr = some (.tup [iv lo, iv hi, iv lo2, iv hi2]) ∧ hi ≤ xs.length ∧ hi2 ≤ ys.length ∧ BIn xs ys lo hi lo2 hi2 b ∧
  ∀ (H' : Hp) (p : Addr) (b : Blk), Same H H' → H' p = some (.tup b.v) → BIn xs ys lo hi lo2 hi2 b → Q (.ref p) H'
theorem bin_down {xs ys : List Ln} {lo hi lo2 hi2 : Nat} {b : Blk} (h : BIn xs ys lo hi lo2 hi2 b) (h1 : lo < b.i) (h2 : lo2 < b.j) (e : xs[b.i - 1]? = ys[b.j - 1]?) : BIn xs ys lo hi lo2 hi2 ⟨b.i - 1, b.j - 1, b.n + 1⟩ := by
  obtain ⟨a1, a2, b1, b2, q⟩ := h
  refine ⟨by show lo ≤ b.i - 1; omega, by show b.i - 1 + (b.n + 1) ≤ hi; omega, by show lo2 ≤ b.j - 1; omega, by show b.j - 1 + (b.n + 1) ≤ hi2; omega, fun t ht => ?_⟩
  show xs[b.i - 1 + t]? = ys[b.j - 1 + t]?
  have ht : t < b.n + 1 := ht
  cases t with
  | zero => exact e
  | succ t =>
    rw [show b.i - 1 + (t + 1) = b.i + t by omega, show b.j - 1 + (t + 1) = b.j + t by omega]
    exact q t (by omega)
theorem bin_up {xs ys : List Ln} {lo hi lo2 hi2 : Nat} {b : Blk} (h : BIn xs ys lo hi lo2 hi2 b) (h1 : b.i + b.n < hi) (h2 : b.j + b.n < hi2) (e : xs[b.i + b.n]? = ys[b.j + b.n]?) : BIn xs ys lo hi lo2 hi2 ⟨b.i, b.j, b.n + 1⟩ := by
  obtain ⟨a1, a2, b1, b2, q⟩ := h
  refine ⟨a1, by show b.i + (b.n + 1) ≤ hi; omega, b1, by show b.j + (b.n + 1) ≤ hi2; omega, fun t ht => ?_⟩
  show xs[b.i + t]? = ys[b.j + t]?
  have ht : t < b.n + 1 := ht
  by_cases h : t = b.n
  · rw [h]
    exact e
  · exact q t (by omega)
theorem ok_grown (T : TX K mg) (cg : C8.Met P w K mg base 1 (He.ga K "Matcher") "goes_on" (spGoes K) []) : C8.Met P w K mg base 2 (He.ga K "Matcher") "grown" (spGrown K) [] := by
  refine metN T.f_MGrown T.c_Matcher T.me_Matcher_grown sc_grown (fun _ _ _ _ _ _ us hl => match us, hl with | [_, _, _, _], _ => rfl) (fun vs H Q E h => ?_) (fun cdv A outer s H vs Q E hr h => ?_)
  · obtain ⟨m, pb, pr, xs, ys, lo, hi, lo2, hi2, b, bj, rfl, _⟩ := h
    rfl
  · obtain ⟨m, pb, pr, xs, ys, lo, hi, lo2, hi2, b, bj, rfl, M, hb, hpr, hX, hY, B, k⟩ := h
    have nd := sc_grown.nd
    obtain ⟨dx, jv, a, bb, d, jk, p, kvs, js, M'⟩ := id M
    refine ⟨_, (pss_cons (ps_asg (pv 2) (pg_tup (by rfl) (pgs_cons (pg_name (i := 4) nd rfl (.inl rfl)) (pgs_cons (pg_name (i := 5) nd rfl (.inl rfl)) (pgs_cons (pg_name (i := 6) nd rfl (.inl rfl)) (pgs_cons (pg_name (i := 7) nd rfl (.inl rfl)) pgs_nil))))))
  (pss_cons (ps_asg (pv 1) (pg_tup (by rfl) (pgs_cons (pg_name (i := 8) nd rfl (.inl rfl)) (pgs_cons (pg_name (i := 9) nd rfl (.inl rfl)) (pgs_cons (pg_name (i := 10) nd rfl (.inl rfl)) pgs_nil)))))
  (C8.pss_cut (ps_while PassesOwn.never (PW.pt (pw_and (pt_cmpR op_gt (pv 8) (pv 4) (nomark _)) (pw_and (pt_cmpR op_gt (pv 9) (pv 6) (nomark _)) (pw_and1 (pt_val (C8.pe_mt cg hr (by decide) (pv 0) (pa_cons (pe_op op_sub (pv 8) pe_int) (pa_cons (pe_op op_sub (pv 9) pe_int) (pa_cons (pv 3) pa_nil)))))))))
  (pss_one (ps_par3 (i := 8) (j := 9) (l := 10) rfl nd rfl rfl rfl (by decide) (by decide) (by decide) rfl rfl rfl (pa_cons (pe_op op_sub (pv 8) pe_int) (pa_cons (pe_op op_sub (pv 9) pe_int) (pa_cons (pe_op op_add (pv 10) pe_int) pa_nil))) (by rfl))))
  (C8.pss_cut (ps_while PassesOwn.never (PW.pt (pw_and (pt_cmpR op_lt (pe_op op_add (pv 8) (pv 10)) (pv 5) (nomark _)) (pw_and (pt_cmpR op_lt (pe_op op_add (pv 9) (pv 10)) (pv 7) (nomark _)) (pw_and1 (pt_val (C8.pe_mt cg hr (by decide) (pv 0) (pa_cons (pe_op op_add (pv 8) (pv 10)) (pa_cons (pe_op op_add (pv 9) (pv 10)) (pa_cons (pv 3) pa_nil)))))))))
  (pss_one (ps_aug (i := 10) nd rfl (.inl rfl) pe_int ip_add)))
  (pss_one (ps_ret (pe_tup (pa_cons (pv 8) (pa_cons (pv 9) (pa_cons (pv 10) pa_nil)))))))))), ?_⟩
    refine ⟨_, rfl, pr, _, rfl, SqT.of hpr, rfl, _, _, rfl, _, _, rfl, _, _, rfl, _, _, rfl, rfl, ?_⟩
    refine ⟨_, rfl, pb, _, rfl, SqT.of hb, rfl, _, _, rfl, _, _, rfl, _, _, rfl, rfl, ?_⟩
    let St : L2.St → Hp → Prop := fun σ H' => ∃ b : Blk, σ = [some (.ref m), some (.ref pb), some (.ref pr), some (.bl bj), some (iv lo), some (iv hi), some (iv lo2), some (iv hi2), some (iv b.i), some (iv b.j), some (iv b.n)] ∧ BIn xs ys lo hi lo2 hi2 b ∧ H = H'
    refine ⟨St, ⟨fun n σ H' => ∃ b : Blk, σ = [some (.ref m), some (.ref pb), some (.ref pr), some (.bl bj), some (iv lo), some (iv hi), some (iv lo2), some (iv hi2), some (iv b.i), some (iv b.j), some (iv b.n)] ∧ BIn xs ys lo hi lo2 hi2 b ∧ H = H' ∧ n = b.i, ⟨_, b, rfl, B, rfl, rfl⟩, ?_⟩, ?_⟩
    · rintro n σ H' ⟨b, rfl, B, rfl, rfl⟩
      refine ⟨_, rfl, _, rfl, _, _, rfl, rfl, _, rfl, iteD (fun c1 => ⟨_, rfl, _, rfl, _, _, rfl, rfl, _, rfl, iteD (fun c2 => ?_) fun _ => iteF ⟨b, rfl, B, rfl⟩⟩) fun _ => iteF ⟨b, rfl, B, rfl⟩⟩
      have g1 : lo < b.i := by omega
      have g2 : lo2 < b.j := by omega
      refine ⟨_, rfl, m, dx, _, rfl, M'.ob, mf_no5, _, rfl, _, _, rfl, rfl, _, rfl, _, _, rfl, rfl, _, rfl, ?_⟩
      refine ⟨m, xs, ys, _, _, b.i - 1, b.j - 1, bj, rfl, by omega, by omega, M, by have := B.a2; omega, by have := B.b2; omega, fun c hc => ⟨c, rfl, iteB (fun e => ?_) fun _ => ⟨b, rfl, B, rfl⟩⟩⟩
      refine ⟨fun σ H' => ∃ n' : Blk, σ = [some (.ref m), some (.ref pb), some (.ref pr), some (.bl bj), some (iv lo), some (iv hi), some (iv lo2), some (iv hi2), some (iv n'.i), some (iv n'.j), some (iv n'.n)] ∧ BIn xs ys lo hi lo2 hi2 n' ∧ H = H' ∧ n'.i + 1 = b.i, ?_, ?_⟩
      · rintro σ H' ⟨n', e1, e2, e3, e4⟩
        exact ⟨n'.i, by omega, n', e1, e2, e3, rfl⟩
      · refine ⟨_, rfl, _, _, rfl, rfl, _, rfl, _, _, rfl, rfl, _, rfl, _, _, rfl, rfl, _, _, _, rfl, ⟨b.i - 1, b.j - 1, b.n + 1⟩, ?_, bin_down B g1 g2 (hc e), rfl, by show b.i - 1 + 1 = b.i; omega⟩
        show [some (V.ref m), some (.ref pb), some (.ref pr), some (.bl bj), some (iv lo), some (iv hi), some (iv lo2), some (iv hi2), some (V.int ((b.i : Int) - 1)), some (V.int ((b.j : Int) - 1)), some (V.int ((b.n : Int) + 1))] = _
        rw [show (b.i : Int) - 1 = ((b.i - 1 : Nat) : Int) by omega, show (b.j : Int) - 1 = ((b.j - 1 : Nat) : Int) by omega, show (b.n : Int) + 1 = ((b.n + 1 : Nat) : Int) by omega]
    · rintro σ H' ⟨b, rfl, B, rfl⟩
      refine ⟨St, ⟨fun n σ H' => ∃ b : Blk, σ = [some (.ref m), some (.ref pb), some (.ref pr), some (.bl bj), some (iv lo), some (iv hi), some (iv lo2), some (iv hi2), some (iv b.i), some (iv b.j), some (iv b.n)] ∧ BIn xs ys lo hi lo2 hi2 b ∧ H = H' ∧ n + b.n = hi, ⟨hi - b.n, b, rfl, B, rfl, by have := B.a2; omega⟩, ?_⟩, ?_⟩
      · rintro n σ H' ⟨b, rfl, B, rfl, hn⟩
        refine ⟨_, rfl, _, rfl, _, _, rfl, rfl, _, rfl, _, _, rfl, rfl, _, rfl, iteD (fun c1 => ⟨_, rfl, _, rfl, _, _, rfl, rfl, _, rfl, _, _, rfl, rfl, _, rfl, iteD (fun c2 => ?_) fun _ => iteF ⟨b, rfl, B, rfl⟩⟩) fun _ => iteF ⟨b, rfl, B, rfl⟩⟩
        have g1 : b.i + b.n < hi := by omega
        have g2 : b.j + b.n < hi2 := by omega
        refine ⟨_, rfl, m, dx, _, rfl, M'.ob, mf_no5, _, rfl, _, rfl, _, _, rfl, rfl, _, rfl, _, rfl, _, _, rfl, rfl, _, rfl, ?_⟩
        refine ⟨m, xs, ys, _, _, b.i + b.n, b.j + b.n, bj, rfl, by omega, by omega, M, by omega, by omega, fun c hc => ⟨c, rfl, iteB (fun e => ?_) fun _ => ⟨b, rfl, B, rfl⟩⟩⟩
        refine ⟨fun σ H' => ∃ n' : Blk, σ = [some (.ref m), some (.ref pb), some (.ref pr), some (.bl bj), some (iv lo), some (iv hi), some (iv lo2), some (iv hi2), some (iv n'.i), some (iv n'.j), some (iv n'.n)] ∧ BIn xs ys lo hi lo2 hi2 n' ∧ H = H' ∧ n'.n = b.n + 1, ?_, ?_⟩
        · rintro σ H' ⟨n', e1, e2, e3, e4⟩
          exact ⟨n - 1, by omega, n', e1, e2, e3, by omega⟩
        · exact ⟨_, rfl, _, _, rfl, rfl, ⟨b.i, b.j, b.n + 1⟩, rfl, bin_up B g1 g2 (hc e), rfl, rfl⟩
      · rintro σ H' ⟨b, rfl, B, rfl⟩
        exact ⟨_, rfl, _, rfl, _, rfl, sl3, fun p hp => k _ p b (same_new hp) upd_same B⟩
end
end TwK

set_option Elab.async false
set_option linter.all false
set_option maxRecDepth 100000
set_option maxHeartbeats 2000000
set_option pp.deepTerms false
set_option pp.deepTerms.threshold 6
namespace TwK
open PySem PySem.Spec PyProof.Rows L2 SX
/-! ### blocks and what waits between them: plain lists -/
structure Box where
  a : Nat
  b : Nat
  c : Nat
  d : Nat
def Box.v (r : Box) : List V := [iv r.a, iv r.b, iv r.c, iv r.d]
def Blk.box (b : Blk) : Box := ⟨b.i, b.i + b.n, b.j, b.j + b.n⟩
def Cmp (x y : Box) : Prop := (x.b ≤ y.a ∧ x.d ≤ y.c) ∨ (y.b ≤ x.a ∧ y.d ≤ x.c)
theorem Cmp.symm {x y : Box} (h : Cmp x y) : Cmp y x := h.elim .inr .inl
theorem Cmp.sub {x y z : Box} (h : Cmp x y) (h1 : y.a ≤ z.a) (h2 : z.b ≤ y.b) (h3 : y.c ≤ z.c) (h4 : z.d ≤ y.d) : Cmp x z := by
  rcases h with ⟨h, g⟩ | ⟨h, g⟩
  · exact .inl ⟨by omega, by omega⟩
  · exact .inr ⟨by omega, by omega⟩
structure BlInv (xs ys : List Ln) (ws : List Box) (bs : List Blk) : Prop where
  pw : (ws ++ bs.map Blk.box).Pairwise Cmp
  wok : ∀ r ∈ ws, r.a ≤ r.b ∧ r.b ≤ xs.length ∧ r.c ≤ r.d ∧ r.d ≤ ys.length
  bok : ∀ b ∈ bs, 0 < b.n ∧ b.Ok xs ys
  cnt : bs.length + (ws.map fun r => r.b - r.a).sum ≤ xs.length
def wm (ws : List Box) : Nat := (ws.map fun r => 2 * (r.b - r.a) + 1).sum
theorem BlInv.drop {xs ys : List Ln} {ws : List Box} {r : Box} {bs : List Blk} (h : BlInv xs ys (ws ++ [r]) bs) : BlInv xs ys ws bs := by
  obtain ⟨pw, wok, bok, cnt⟩ := h
  refine ⟨?_, fun r hr => wok r (List.mem_append_left _ hr), bok, ?_⟩
  · refine pw.sublist ?_
    exact List.Sublist.append (List.sublist_append_left ws [r]) (List.Sublist.refl _)
  · rw [List.map_append, List.sum_append] at cnt
    omega
theorem wm_drop (ws : List Box) (r : Box) : wm ws < wm (ws ++ [r]) := by
  unfold wm
  rw [List.map_append, List.sum_append]
  simp
theorem BlInv.split {xs ys : List Ln} {ws : List Box} {r : Box} {bs : List Blk} {b : Blk} (h : BlInv xs ys (ws ++ [r]) bs) (hb : BIn xs ys r.a r.b r.c r.d b) (hn : 0 < b.n) :
    BlInv xs ys (ws ++ [⟨r.a, b.i, r.c, b.j⟩, ⟨b.i + b.n, r.b, b.j + b.n, r.d⟩]) (bs ++ [b]) ∧ wm (ws ++ [⟨r.a, b.i, r.c, b.j⟩, ⟨b.i + b.n, r.b, b.j + b.n, r.d⟩]) < wm (ws ++ [r]) := by
  obtain ⟨pw, wok, bok, cnt⟩ := h
  obtain ⟨a1, a2, b1, b2, eq⟩ := hb
  obtain ⟨r1, r2, r3, r4⟩ := wok r (by simp)
  refine ⟨⟨?_, ?_, ?_, ?_⟩, ?_⟩
  · have hL : ((ws ++ [(⟨r.a, b.i, r.c, b.j⟩ : Box), (⟨b.i + b.n, r.b, b.j + b.n, r.d⟩ : Box)]) ++ (bs ++ [b]).map Blk.box).Perm ((⟨r.a, b.i, r.c, b.j⟩ : Box) :: (⟨b.i + b.n, r.b, b.j + b.n, r.d⟩ : Box) :: b.box :: (ws ++ bs.map Blk.box)) := by
      rw [List.map_append, List.append_assoc]
      refine List.perm_append_comm.trans ?_
      show ([_, _] ++ (bs.map Blk.box ++ [b.box])) ++ ws |>.Perm _
      simp only [List.cons_append, List.nil_append, List.append_assoc]
      refine List.Perm.cons _ (List.Perm.cons _ ?_)
      refine (List.perm_middle (a := b.box) (l₁ := bs.map Blk.box) (l₂ := ws)).trans (List.Perm.cons _ List.perm_append_comm)
    have hR : ((ws ++ [r]) ++ bs.map Blk.box).Perm (r :: (ws ++ bs.map Blk.box)) := by
      rw [List.append_assoc]
      exact List.perm_middle
    rw [hL.pairwise_iff Cmp.symm]
    rw [hR.pairwise_iff Cmp.symm] at pw
    obtain ⟨p1, p2⟩ := List.pairwise_cons.mp pw
    have sub : ∀ z : Box, r.a ≤ z.a → z.b ≤ r.b → r.c ≤ z.c → z.d ≤ r.d → ∀ y ∈ ws ++ bs.map Blk.box, Cmp z y := fun z h1 h2 h3 h4 y hy => ((p1 y hy).symm.sub h1 h2 h3 h4).symm
    refine List.pairwise_cons.mpr ⟨fun y hy => ?_, List.pairwise_cons.mpr ⟨fun y hy => ?_, List.pairwise_cons.mpr ⟨fun y hy => ?_, p2⟩⟩⟩
    · rcases List.mem_cons.mp hy with rfl | hy
      · exact .inl ⟨by show b.i ≤ b.i + b.n; omega, by show b.j ≤ b.j + b.n; omega⟩
      · rcases List.mem_cons.mp hy with rfl | hy
        · exact .inl ⟨Nat.le_refl _, Nat.le_refl _⟩
        · exact sub ⟨r.a, b.i, r.c, b.j⟩ (Nat.le_refl _) (by show b.i ≤ r.b; omega) (Nat.le_refl _) (by show b.j ≤ r.d; omega) y hy
    · rcases List.mem_cons.mp hy with rfl | hy
      · exact .inr ⟨Nat.le_refl _, Nat.le_refl _⟩
      · exact sub ⟨b.i + b.n, r.b, b.j + b.n, r.d⟩ (by show r.a ≤ b.i + b.n; omega) (Nat.le_refl _) (by show r.c ≤ b.j + b.n; omega) (Nat.le_refl _) y hy
    · exact sub b.box a1 a2 b1 b2 y hy
  · intro z hz
    rcases List.mem_append.mp hz with hz | hz
    · exact wok z (List.mem_append_left _ hz)
    · rcases List.mem_cons.mp hz with rfl | hz
      · exact ⟨a1, by show b.i ≤ _; omega, b1, by show b.j ≤ _; omega⟩
      · rw [List.mem_singleton.mp hz]
        exact ⟨a2, r2, b2, r4⟩
  · intro z hz
    rcases List.mem_append.mp hz with hz | hz
    · exact bok z hz
    · rw [List.mem_singleton.mp hz]
      exact ⟨hn, by omega, by omega, eq⟩
  · rw [List.map_append, List.sum_append] at cnt ⊢
    simp only [List.map_cons, List.map_nil, List.sum_cons, List.sum_nil, List.length_append, List.length_singleton] at cnt ⊢
    omega
  · unfold wm
    rw [List.map_append, List.sum_append, List.map_append, List.sum_append]
    simp only [List.map_cons, List.map_nil, List.sum_cons, List.sum_nil]
    omega
/-- ahead -/
def Bef (x y : Blk) : Prop := x.i + x.n ≤ y.i ∧ x.j + x.n ≤ y.j
theorem bef_of {x y : Blk} (hx : 0 < x.n) (hy : 0 < y.n) (h : Cmp x.box y.box) (bx : x.i < 64 ∧ x.j < 64 ∧ x.n < 64) (by_ : y.i < 64 ∧ y.j < 64 ∧ y.n < 64)
    (hc : TS.code 64 [(x.i : Int), (x.j : Int), (x.n : Int)] ≤ TS.code 64 [(y.i : Int), (y.j : Int), (y.n : Int)]) : Bef x y := by
  rcases h with h | ⟨h1, h2⟩
  · exact h
  · exfalso
    have hc2 : (x.i : Int) * 64 ^ 2 + ((x.j : Int) * 64 ^ 1 + ((x.n : Int) * 64 ^ 0 + 0)) ≤ (y.i : Int) * 64 ^ 2 + ((y.j : Int) * 64 ^ 1 + ((y.n : Int) * 64 ^ 0 + 0)) := hc
    have e2 : (64 : Int) ^ 2 = 4096 := by decide
    have e1 : (64 : Int) ^ 1 = 64 := by decide
    have e0 : (64 : Int) ^ 0 = 1 := by decide
    rw [e2, e1, e0] at hc2
    have h1 : y.i + y.n ≤ x.i := h1
    omega
/-- a chain of blocks from (i, j) to (a, b) -/
def BTo (xs ys : List Ln) : List Blk → Nat → Nat → Nat → Nat → Prop
  | [], i, j, a, b => i = a ∧ j = b
  | f :: fs, i, j, a, b => i ≤ f.i ∧ j ≤ f.j ∧ f.Ok xs ys ∧ BTo xs ys fs (f.i + f.n) (f.j + f.n) a b
theorem BTo.snoc {xs ys : List Ln} {f : Blk} : ∀ {fs : List Blk} {i j a b : Nat}, BTo xs ys fs i j a b → a ≤ f.i → b ≤ f.j → f.Ok xs ys → BTo xs ys (fs ++ [f]) i j (f.i + f.n) (f.j + f.n)
  | [], i, j, a, b, h, h1, h2, ok => ⟨by rw [h.1]; exact h1, by rw [h.2]; exact h2, ok, rfl, rfl⟩
  | g :: fs, i, j, a, b, h, h1, h2, ok => ⟨h.1, h.2.1, h.2.2.1, BTo.snoc h.2.2.2 h1 h2 ok⟩
theorem BTo.last {xs ys : List Ln} {f : Blk} : ∀ {fs : List Blk} {i j a b : Nat}, BTo xs ys (fs ++ [f]) i j a b → a = f.i + f.n ∧ b = f.j + f.n ∧ f.Ok xs ys
  | [], i, j, a, b, h => ⟨h.2.2.2.1.symm, h.2.2.2.2.symm, h.2.2.1⟩
  | g :: fs, i, j, a, b, h => BTo.last (fs := fs) h.2.2.2
theorem ok_glue {xs ys : List Ln} {f g : Blk} (hf : f.Ok xs ys) (hg : g.Ok xs ys) (e1 : g.i = f.i + f.n) (e2 : g.j = f.j + f.n) : Blk.Ok xs ys ⟨f.i, f.j, f.n + g.n⟩ := by
  obtain ⟨f1, f2, f3⟩ := hf
  obtain ⟨g1, g2, g3⟩ := hg
  refine ⟨by show f.i + (f.n + g.n) ≤ _; omega, by show f.j + (f.n + g.n) ≤ _; omega, fun t ht => ?_⟩
  have ht : t < f.n + g.n := ht
  show xs[f.i + t]? = ys[f.j + t]?
  by_cases h : t < f.n
  · exact f3 t h
  · have q := g3 (t - f.n) (by omega)
    rw [e1, e2, show f.i + f.n + (t - f.n) = f.i + t by omega, show f.j + f.n + (t - f.n) = f.j + t by omega] at q
    exact q
theorem BTo.merge {xs ys : List Ln} {f g : Blk} : ∀ {fs : List Blk} {i j a b : Nat}, BTo xs ys (fs ++ [f]) i j a b → g.Ok xs ys → g.i = f.i + f.n → g.j = f.j + f.n → BTo xs ys (fs ++ [⟨f.i, f.j, f.n + g.n⟩]) i j (g.i + g.n) (g.j + g.n)
  | [], i, j, a, b, h, ok, e1, e2 => ⟨h.1, h.2.1, ok_glue h.2.2.1 ok e1 e2, by show f.i + (f.n + g.n) = _; omega, by show f.j + (f.n + g.n) = _; omega⟩
  | k :: fs, i, j, a, b, h, ok, e1, e2 => ⟨h.1, h.2.1, h.2.2.1, BTo.merge (fs := fs) h.2.2.2 ok e1 e2⟩
theorem BTo.close {xs ys : List Ln} : ∀ {fs : List Blk} {i j a b : Nat}, BTo xs ys fs i j a b → a ≤ xs.length → b ≤ ys.length → Blks xs ys (fs ++ [⟨xs.length, ys.length, 0⟩]) i j
  | [], i, j, a, b, h, h1, h2 => ⟨by rw [h.1]; exact h1, by rw [h.2]; exact h2, ⟨Nat.le_refl _, Nat.le_refl _, fun t ht => absurd ht (Nat.not_lt_zero _)⟩, rfl, rfl⟩
  | f :: fs, i, j, a, b, h, h1, h2 => ⟨h.1, h.2.1, h.2.2.1, BTo.close h.2.2.2 h1 h2⟩
end TwK

set_option Elab.async false
set_option linter.all false
set_option maxRecDepth 100000
set_option maxHeartbeats 2000000
set_option pp.deepTerms false
set_option pp.deepTerms.threshold 6
namespace TwK
open PySem PySem.Spec PyProof.Rows L2 SX
section
variable {P : Program} {w : World} {K : PySem.W.Frag} {mg : Str → Option Value} {base : Heap}
theorem sc_longest : FnScope ["self", "low", "high", "low2", "high2", "bounds", "block"] ["self", "low", "high", "low2", "high2"] (defScope sMLongestMatch) := ⟨rfl, rfl, rfl, by decide +kernel, rfl, by decide +kernel, by decide +kernel⟩
theorem ok_longest (T : TX K mg) (cb : C8.Met P w K mg base 1 (He.ga K "Matcher") "begun" (spBegun K) []) (cg : C8.Met P w K mg base 2 (He.ga K "Matcher") "grown" (spGrown K) []) : C8.Met P w K mg base 3 (He.ga K "Matcher") "longest_match" (spBegun K) [] := by
  refine metD (dvs := dMLongestMatch.dvs K) (n := 5) T.f_MLongestMatch T.c_Matcher T.me_Matcher_longest_match sc_longest (by intro z; cases z) rfl (fun _ _ _ _ _ _ _ us its h1 h2 => match us, its, h1, h2 with | [_, _, _, _, _], [_, _, _, _], _, _ => ⟨_, rfl, rfl⟩) (fun vs H Q E h => ?_) (fun cdv A outer s H vs Q E hr h => ?_)
  · obtain ⟨m, xs, ys, lo, hi, lo2, hi2, rfl, _⟩ := h
    rfl
  · obtain ⟨m, xs, ys, lo, hi, lo2, hi2, rfl, M, hX, hY, l1, l2, l3, l4, k⟩ := h
    obtain ⟨dx, jv, a, b, d, j, p, kvs, js, M'⟩ := id M
    have nd := sc_longest.nd
    refine ⟨_, (pss_cons (ps_set (i := 5) nd rfl (.inl rfl) (pe_tup (pa_cons (pv 1) (pa_cons (pe_ifExp (pt_cmpR op_isN (pv 2) pe_non (nomark _)) (pe_callB call_len (by rfl) T.n_len PySem.boot_len (pa_cons (pe_fld (pv 0) (by rfl)) pa_nil)) (pv 2)) (pa_cons (pv 3) (pa_cons (pe_ifExp (pt_cmpR op_isN (pv 4) pe_non (nomark _)) (pe_callB call_len (by rfl) T.n_len PySem.boot_len (pa_cons (pe_fld (pv 0) (by rfl)) pa_nil)) (pv 4)) pa_nil))))))
  (pss_cons (ps_set (i := 6) nd rfl (.inl rfl) (C8.pe_mt cb hr (by decide) (pv 0) (pa_cons (pe_ix ix_tup (pv 5) pe_int (fun _ _ => rfl)) (pa_cons (pe_ix ix_tup (pv 5) pe_int (fun _ _ => rfl)) (pa_cons (pe_ix ix_tup (pv 5) pe_int (fun _ _ => rfl)) (pa_cons (pe_ix ix_tup (pv 5) pe_int (fun _ _ => rfl)) pa_nil))))))
  (pss_one (ps_ret (C8.pe_mt cg hr (by decide) (pv 0) (pa_cons (C8.pe_mt cg hr (by decide) (pv 0) (pa_cons (pv 6) (pa_cons (pv 5) (pa_cons pe_bl pa_nil)))) (pa_cons (pv 5) (pa_cons pe_bl pa_nil)))))))), ?_⟩
    refine ⟨_, rfl, _, rfl, rfl, _, rfl, iteF ⟨_, rfl, _, rfl, _, rfl, rfl, _, rfl, iteF ⟨_, rfl, sl4, fun pr hpr => ?_⟩⟩⟩
    have s1 : Same H _ := same_new (o := .tup [iv lo, iv hi, iv lo2, iv hi2]) hpr
    refine ⟨_, rfl, m, dx, _, rfl, s1 _ _ M'.ob, mf_no3, _, rfl, pr, _, _, _, rfl, rfl, SqT.of upd_same, at_of (j := 0) rfl rfl, _, rfl, pr, _, _, _, rfl, rfl, SqT.of upd_same, at_of (j := 1) rfl rfl,
      _, rfl, pr, _, _, _, rfl, rfl, SqT.of upd_same, at_of (j := 2) rfl rfl, _, rfl, pr, _, _, _, rfl, rfl, SqT.of upd_same, at_of (j := 3) rfl rfl, ?_⟩
    refine ⟨m, xs, ys, lo, hi, lo2, hi2, rfl, M.mono s1, hX, hY, l1, l2, l3, l4, fun H2 pb bb s2 hb B => ?_⟩
    have s12 := s1.trans s2
    refine ⟨_, rfl, m, dx, _, rfl, s12 _ _ M'.ob, mf_no4, _, rfl, m, dx, _, rfl, s12 _ _ M'.ob, mf_no4, _, rfl, _, rfl, ?_⟩
    refine ⟨m, pb, pr, xs, ys, lo, hi, lo2, hi2, bb, false, rfl, M.mono s12, hb, s2 _ _ upd_same, l2, l4, B, fun H3 p3 b3 s3 hp3 B3 => ⟨_, rfl, ?_⟩⟩
    exact ⟨m, p3, pr, xs, ys, lo, hi, lo2, hi2, b3, true, rfl, M.mono (s12.trans s3), hp3, s3 _ _ (s2 _ _ upd_same), l2, l4, B3, fun H4 p4 b4 s4 hp4 B4 => k H4 p4 b4 (s12.trans (s3.trans s4)) hp4 B4⟩
/-! ### blocks -/
structure BS (H0 H : Hp) (w s : Addr) (gw gs : List V) (ws : List Box) (bs : List Blk) : Prop where
  same : Same H0 H
  nw : H0 w = none
  ns : H0 s = none
  ne : w ≠ s
  hw : H w = some (.lst gw)
  hs : H s = some (.lst gs)
  pw : Paired (TupIs H Box.v) gw ws
  ps : Paired (TupIs H Blk.v) gs bs
section
variable {H0 H H' : Hp} {w s p : Addr} {gw gs gw' : List V} {ws ws' : List Box} {bs : List Blk} {o : HO}
theorem BS.call (b : BS H0 H w s gw gs ws bs) (h : Same H H') : BS H0 H' w s gw gs ws bs := ⟨b.same.trans h, b.nw, b.ns, b.ne, h _ _ b.hw, h _ _ b.hs, tups_mono b.pw h, tups_mono b.ps h⟩
theorem BS.new (b : BS H0 H w s gw gs ws bs) (hp : H p = none) : BS H0 (upd H p o) w s gw gs ws bs := b.call (same_new hp)
theorem BS.setW (b : BS H0 H w s gw gs ws bs) (h : Paired (TupIs H Box.v) gw' ws') : BS H0 (upd H w (.lst gw')) w s gw' gs ws' bs :=
  ⟨same_put b.nw b.same, b.nw, b.ns, b.ne, upd_same, by rw [upd_ne b.ne.symm]; exact b.hs, tups_updL h b.hw, tups_updL b.ps b.hw⟩
theorem BS.pushW {r : Box} (b : BS H0 H w s gw gs ws bs) (hp : H p = none) : BS H0 (upd (upd H p (.tup r.v)) w (.lst (gw ++ [.ref p]))) w s (gw ++ [.ref p]) gs (ws ++ [r]) bs :=
  (b.new hp).setW (Paired.snoc (b.new hp).pw ⟨p, rfl, upd_same⟩)
theorem BS.pushS {r : Blk} (b : BS H0 H w s gw gs ws bs) (hp : H p = none) : BS H0 (upd (upd H p (.tup r.v)) s (.lst (gs ++ [.ref p]))) w s gw (gs ++ [.ref p]) ws (bs ++ [r]) := by
  have b1 := b.new (o := .tup r.v) hp
  exact ⟨same_put b.ns b1.same, b.nw, b.ns, b.ne, by rw [upd_ne b.ne]; exact b1.hw, upd_same, tups_updL b1.pw b1.hs, tups_updL (Paired.snoc b1.ps ⟨p, rfl, upd_same⟩) b1.hs⟩
end
theorem len_wm : ∀ ws : List Box, ws.length ≤ wm ws
  | [] => Nat.le_refl _
  | r :: ws => by
    have q := len_wm ws
    show ws.length + 1 ≤ 2 * (r.b - r.a) + 1 + wm ws
    omega
theorem blks_n {xs ys : List Ln} : ∀ {bs : List Blk} {i j : Nat}, Blks xs ys bs i j → ∀ b ∈ bs, b.n ≤ xs.length
  | [], _, _, _, b, hb => nomatch hb
  | c :: bs, i, j, h, b, hb => by
    rcases List.mem_cons.mp hb with rfl | hb
    · have q := h.2.2.1.1
      omega
    · exact blks_n h.2.2.2 b hb
theorem sc_blocks : FnScope ["self", "waiting", "some", "low", "high", "low2", "high2", "i", "j", "size", "found"] ["self"] (defScope sMBlocks) := ⟨rfl, rfl, rfl, by decide +kernel, rfl, by decide +kernel, by decide +kernel⟩
def spBlocks (K : PySem.W.Frag) : Sp := fun vs H Q _ => ∃ (m : Addr) (xs ys : List Ln), vs = [.ref m] ∧ MAt K H m xs ys ∧ xs.length ≤ 60 ∧ ys.length ≤ 60 ∧
  ∀ (H' : Hp) (p : Addr) (us : List V) (bs : List Blk), Same H H' → H' p = some (.lst us) → Paired (TupIs H' Blk.v) us bs → Blks xs ys bs 0 0 → bs.length ≤ 61 → (∀ b ∈ bs, b.n ≤ 60) → Q (.ref p) H'
theorem ok_blocks (T : TX K mg) (cl : C8.Met P w K mg base 3 (He.ga K "Matcher") "longest_match" (spBegun K) []) : C8.Met P w K mg base 4 (He.ga K "Matcher") "blocks" (spBlocks K) [] := by
  refine metN T.f_MBlocks T.c_Matcher T.me_Matcher_blocks sc_blocks (fun _ _ _ _ _ _ us hl => match us, hl with | [_], _ => rfl) (fun vs H Q E h => ?_) (fun cdv A outer s H vs Q E hr h => ?_)
  · obtain ⟨m, xs, ys, rfl, _⟩ := h
    rfl
  · obtain ⟨m, xs, ys, rfl, M, hX, hY, k⟩ := h
    obtain ⟨dx, jv, a, b, d, j, p, kvs, js, M'⟩ := id M
    have nd := sc_blocks.nd
    have neg1 : ∀ {X : Cx} {k : Nat} {p1 p2 : Pos}, PE X (.UnaryOp .USub (.Constant (.int 1) k p1) p2) (tUn (rU fun i => .int (-i)) (tC (.int 1))) := pe_un un_neg pe_int
    refine ⟨_, (pss_cons (ps_set (i := 1) nd rfl (.inl rfl) (pe_lst (pa_cons (pe_tup (pa_cons pe_int (pa_cons (pe_callB call_len (by rfl) T.n_len PySem.boot_len (pa_cons (pe_fld (pv 0) (by rfl)) pa_nil)) (pa_cons pe_int (pa_cons (pe_callB call_len (by rfl) T.n_len PySem.boot_len (pa_cons (pe_fld (pv 0) (by rfl)) pa_nil)) pa_nil))))) pa_nil)))
  (pss_cons (ps_set (i := 2) nd rfl (.inl rfl) (pe_lst pa_nil))
  (C8.pss_cut (ps_while PassesOwn.never (pt_cmpR (op_neE hr.units0) (pv 1) (pe_lst pa_nil) (nomark _))
  (pss_cons (ps_asg (pe_bm0 PySem.F.plainAttrs_list PySem.F.slot_list_pop PySem.F.type_list_pop mt_pop (pv 1)) (pg_tup (by rfl) (pgs_cons (pg_name (i := 3) nd rfl (.inl rfl)) (pgs_cons (pg_name (i := 4) nd rfl (.inl rfl)) (pgs_cons (pg_name (i := 5) nd rfl (.inl rfl)) (pgs_cons (pg_name (i := 6) nd rfl (.inl rfl)) pgs_nil))))))
  (pss_cons (ps_asg (C8.pe_mt cl hr (by decide) (pv 0) (pa_cons (pv 3) (pa_cons (pv 4) (pa_cons (pv 5) (pa_cons (pv 6) pa_nil))))) (pg_tup (by rfl) (pgs_cons (pg_name (i := 7) nd rfl (.inl rfl)) (pgs_cons (pg_name (i := 8) nd rfl (.inl rfl)) (pgs_cons (pg_name (i := 9) nd rfl (.inl rfl)) pgs_nil)))))
  (pss_one (ps_if (pt_cmpR op_gt (pv 9) pe_int (nomark _)) (pss_cons (ps_expr (pe_bm PySem.F.plainAttrs_list PySem.F.slot_list_append PySem.F.type_list_append mt_append (pv 2) (pa_cons (pe_tup (pa_cons (pv 7) (pa_cons (pv 8) (pa_cons (pv 9) pa_nil)))) pa_nil)))
  (pss_cons (ps_expr (pe_bm PySem.F.plainAttrs_list PySem.F.slot_list_append PySem.F.type_list_append mt_append (pv 1) (pa_cons (pe_tup (pa_cons (pv 3) (pa_cons (pv 7) (pa_cons (pv 5) (pa_cons (pv 8) pa_nil))))) pa_nil)))
  (pss_one (ps_expr (pe_bm PySem.F.plainAttrs_list PySem.F.slot_list_append PySem.F.type_list_append mt_append (pv 1) (pa_cons (pe_tup (pa_cons (pe_op op_add (pv 7) (pv 9)) (pa_cons (pv 4) (pa_cons (pe_op op_add (pv 8) (pv 9)) (pa_cons (pv 6) pa_nil))))) pa_nil)))))) pss_nil)))))
  (pss_cons (ps_set (i := 10) nd rfl (.inl rfl) (pe_lst pa_nil))
  (C8.pss_cut (ps_for PassesOwn.never rfl (pi_list (pe_callB (cr_sortT (d := 3) (B := 64) (by decide)) (by rfl) T.n_sorted (by decide +kernel) (pa_cons (pv 2) pa_nil))) (pg_tup (by rfl) (pgs_cons (pg_name (i := 7) nd rfl (.inl rfl)) (pgs_cons (pg_name (i := 8) nd rfl (.inl rfl)) (pgs_cons (pg_name (i := 9) nd rfl (.inl rfl)) pgs_nil))))
  (pss_one (ps_if (PW.pt (pw_and (pt_cmpR (op_neE hr.units0) (pv 10) (pe_lst pa_nil) (nomark _)) (pw_and (pt_cmpR op_eq (pe_op op_add (pe_ix ix_tup (pe_ix ix_list (pv 10) neg1 (fun _ _ => rfl)) pe_int (fun _ _ => rfl)) (pe_ix ix_tup (pe_ix ix_list (pv 10) neg1 (fun _ _ => rfl)) pe_int (fun _ _ => rfl))) (pv 7) (nomark _)) (pw_and1 (pt_cmpR op_eq (pe_op op_add (pe_ix ix_tup (pe_ix ix_list (pv 10) neg1 (fun _ _ => rfl)) pe_int (fun _ _ => rfl)) (pe_ix ix_tup (pe_ix ix_list (pv 10) neg1 (fun _ _ => rfl)) pe_int (fun _ _ => rfl))) (pv 8) (nomark _)))))) (pss_one (ps_asg (pe_tup (pa_cons (pe_ix ix_tup (pe_ix ix_list (pv 10) neg1 (fun _ _ => rfl)) pe_int (fun _ _ => rfl)) (pa_cons (pe_ix ix_tup (pe_ix ix_list (pv 10) neg1 (fun _ _ => rfl)) pe_int (fun _ _ => rfl)) (pa_cons (pe_op op_add (pe_ix ix_tup (pe_ix ix_list (pv 10) neg1 (fun _ _ => rfl)) pe_int (fun _ _ => rfl)) (pv 9)) pa_nil)))) (pg_sub (pv 10) neg1 set_list))) (pss_one (ps_expr (pe_bm PySem.F.plainAttrs_list PySem.F.slot_list_append PySem.F.type_list_append mt_append (pv 10) (pa_cons (pe_tup (pa_cons (pv 7) (pa_cons (pv 8) (pa_cons (pv 9) pa_nil)))) pa_nil)))))))
  (pss_one (ps_ret (pe_op op_cat (pv 10) (pe_lst (pa_cons (pe_tup (pa_cons (pe_callB call_len (by rfl) T.n_len PySem.boot_len (pa_cons (pe_fld (pv 0) (by rfl)) pa_nil)) (pa_cons (pe_callB call_len (by rfl) T.n_len PySem.boot_len (pa_cons (pe_fld (pv 0) (by rfl)) pa_nil)) (pa_cons pe_int pa_nil)))) pa_nil)))))))))), ?_⟩
    refine ⟨_, rfl, m, _, dx, _, _, rfl, M'.ob, T.c_Matcher, T.no_Matcher_first, mf_first, _, xs.length, rfl, .inr ⟨_, SqT.of M'.one, by simp⟩, _, rfl, m, _, dx, _, _, rfl, M'.ob, T.c_Matcher, T.no_Matcher_second, mf_second, _, ys.length, rfl, .inr ⟨_, SqT.of M'.oth, by simp⟩,
      sl4, fun pr hpr => ⟨sl1, fun wa hwa => ⟨Nat.zero_le _, fun sa hsa => ?_⟩⟩⟩
    have B0 : BS H (upd (upd (upd H pr (.tup (Box.v ⟨0, xs.length, 0, ys.length⟩))) wa (.lst [.ref pr])) sa (.lst [])) wa sa [.ref pr] [] [⟨0, xs.length, 0, ys.length⟩] [] := by
      have t1 : Same H (upd H pr (.tup (Box.v ⟨0, xs.length, 0, ys.length⟩))) := same_new hpr
      have h1 : upd (upd H pr (.tup (Box.v ⟨0, xs.length, 0, ys.length⟩))) wa (.lst [.ref pr]) pr = some (.tup (Box.v ⟨0, xs.length, 0, ys.length⟩)) := same_new hwa _ _ upd_same
      exact ⟨(t1.trans (same_new hwa)).trans (same_new hsa), t1.free hwa, (t1.trans (same_new hwa)).free hsa, ne_of_none upd_same hsa, same_new hsa _ _ upd_same, upd_same, .cons ⟨pr, rfl, same_new hsa _ _ h1⟩ .nil, .nil⟩
    have I0 : BlInv xs ys [⟨0, xs.length, 0, ys.length⟩] [] := by
      refine ⟨List.pairwise_singleton _ _, fun r hr => ?_, fun b hb => absurd hb (by simp), by simp⟩
      rw [List.mem_singleton.mp hr]
      exact ⟨Nat.zero_le _, Nat.le_refl _, Nat.zero_le _, Nat.le_refl _⟩
    refine ⟨fun σ H' => ∃ (gw gs : List V) (bs : List Blk) (u3 u4 u5 u6 u7 u8 u9 u10 : Option V), σ = [some (.ref m), some (.ref wa), some (.ref sa), u3, u4, u5, u6, u7, u8, u9, u10] ∧ BS H H' wa sa gw gs [] bs ∧ BlInv xs ys [] bs,
      ⟨fun n σ H' => ∃ (gw gs : List V) (ws : List Box) (bs : List Blk) (u3 u4 u5 u6 u7 u8 u9 u10 : Option V), σ = [some (.ref m), some (.ref wa), some (.ref sa), u3, u4, u5, u6, u7, u8, u9, u10] ∧ BS H H' wa sa gw gs ws bs ∧ BlInv xs ys ws bs ∧ n = wm ws ∧ n ≤ 121,
        ⟨_, _, _, _, _, _, _, _, _, _, _, _, _, rfl, B0, I0, rfl, by show 2 * (xs.length - 0) + 1 + 0 ≤ 121; omega⟩, ?_⟩, ?_⟩
    · rintro n σ H' ⟨gw, gs, ws, bs, u3, u4, u5, u6, u7, u8, u9, u10, rfl, B, I, rfl, hn⟩
      refine ⟨_, rfl, Nat.zero_le _, fun z hz => ⟨wa, z, gw, rfl, rfl, SqL.of (B.new hz).hw, upd_same, _, rfl, ?_⟩⟩
      have B := B.new (o := .lst []) hz
      rcases nil_or_snoc gw with rfl | ⟨l, x, rfl⟩
      · have ews : ws = [] := by
          cases B.pw
          rfl
        subst ews
        exact iteF ⟨_, gs, bs, _, _, _, _, _, _, _, _, rfl, B, I⟩
      · refine iteB (fun _ => ?_) fun q => absurd q (by simp)
        obtain ⟨ws0, r, rfl, hp0, T0, rfl, hT⟩ := paired_snoc B.pw
        refine ⟨fun σ H' => ∃ (gw gs : List V) (ws : List Box) (bs : List Blk) (u3 u4 u5 u6 u7 u8 u9 u10 : Option V), σ = [some (.ref m), some (.ref wa), some (.ref sa), u3, u4, u5, u6, u7, u8, u9, u10] ∧ BS H H' wa sa gw gs ws bs ∧ BlInv xs ys ws bs ∧ wm ws < wm (ws0 ++ [r]), ?_, ?_⟩
        · rintro σ H' ⟨gw, gs, ws, bs, u3, u4, u5, u6, u7, u8, u9, u10, e1, e2, e3, e4⟩
          exact ⟨wm ws, e4, gw, gs, ws, bs, u3, u4, u5, u6, u7, u8, u9, u10, e1, e2, e3, rfl, by omega⟩
        have hws : ws0.length ≤ 121 := by
          have q := len_wm (ws0 ++ [r])
          rw [List.length_append] at q
          omega
        have hll : l.length = ws0.length := Paired.length hp0
        have hgl : gs.length = bs.length := Paired.length B.ps
        have hbl : bs.length ≤ 60 := by
          have q := I.cnt
          omega
        obtain ⟨w1, w2, w3, w4⟩ := I.wok r (by simp)
        have B1 := B.setW (gw' := (l ++ [V.ref T0]).dropLast) (ws' := ws0) (by rw [List.dropLast_concat]; exact hp0)
        refine ⟨_, rfl, .inl ⟨rfl, _, SqL.of B.hw⟩, wa, _, V.ref T0, rfl, rfl, B.hw, by simp, ?_⟩
        refine ⟨T0, r.v, rfl, SqT.of (by rw [upd_ne (ne_of hT B.hw (by intro z; cases z))]; exact hT), rfl, _, _, rfl, _, _, rfl, _, _, rfl, _, _, rfl, rfl, ?_⟩
        refine ⟨_, rfl, m, dx, _, rfl, B1.same _ _ M'.ob, mf_no6, _, rfl, _, rfl, _, rfl, _, rfl, ?_⟩
        refine ⟨m, xs, ys, r.a, r.b, r.c, r.d, rfl, M.mono B1.same, by omega, by omega, w1, w2, w3, w4, fun H2 pb b s2 hb hB => ?_⟩
        have B2 := B1.call s2
        refine ⟨pb, b.v, rfl, SqT.of hb, rfl, _, _, rfl, _, _, rfl, _, _, rfl, rfl, ?_⟩
        refine ⟨_, rfl, _, _, rfl, rfl, _, rfl, iteD (fun c => ?_) fun c => ⟨_, gs, ws0, bs, _, _, _, _, _, _, _, _, rfl, B2, I.drop, wm_drop ws0 r⟩⟩
        obtain ⟨J, hlt⟩ := I.split hB (by omega)
        have big : ∀ {n : Nat}, n ≤ 200 → n < sizeLine := fun {n} h => by rw [sizeLine_eq]; omega
        refine ⟨_, rfl, .inl ⟨rfl, _, SqL.of B2.hs⟩, _, rfl, _, rfl, _, rfl, sl3, fun p1 hp1 => ⟨sa, gs, _, rfl, rfl, (B2.new hp1).hs, big (by omega), ?_⟩⟩
        have B3 := B2.pushS (r := b) hp1
        have hdl : ((l ++ [V.ref T0]).dropLast).length = ws0.length := by rw [List.dropLast_concat]; exact hll
        refine ⟨_, rfl, .inl ⟨rfl, _, SqL.of B3.hw⟩, _, rfl, _, rfl, _, rfl, _, rfl, sl4, fun p2 hp2 => ⟨wa, _, _, rfl, rfl, (B3.new hp2).hw, big (by omega), ?_⟩⟩
        have B4 := B3.pushW (r := ⟨r.a, b.i, r.c, b.j⟩) hp2
        refine ⟨_, rfl, .inl ⟨rfl, _, SqL.of B4.hw⟩, _, rfl, _, rfl, _, _, rfl, rfl, _, rfl, _, rfl, _, rfl, _, _, rfl, rfl, _, rfl, sl4, fun p3 hp3 => ⟨wa, _, _, rfl, rfl, (B4.new hp3).hw, ?_, ?_⟩⟩
        · rw [List.length_append, hdl]
          exact big (by simp; omega)
        · have B5 := B4.pushW (r := ⟨b.i + b.n, r.b, b.j + b.n, r.d⟩) hp3
          refine ⟨(l ++ [V.ref T0]).dropLast ++ [V.ref p2] ++ [V.ref p3], gs ++ [V.ref p1], ws0 ++ [(⟨r.a, b.i, r.c, b.j⟩ : Box)] ++ [(⟨b.i + b.n, r.b, b.j + b.n, r.d⟩ : Box)], bs ++ [b], _, _, _, _, _, _, _, _, rfl, B5, ?_, ?_⟩
          · rw [List.append_assoc]
            exact J
          · rw [List.append_assoc]
            exact hlt
    · rintro σ H' ⟨gw, gs, bs, u3, u4, u5, u6, u7, u8, u9, u10, rfl, B, I⟩
      refine ⟨Nat.zero_le _, fun f hf => ?_⟩
      have hf0 : H f = none := B.same.free hf
      have B := B.new (o := .lst []) hf
      have hff : upd H' f (.lst []) f = some (.lst []) := upd_same
      have hgl : gs.length = bs.length := Paired.length B.ps
      have hbl : bs.length ≤ 60 := by
        have q := I.cnt
        omega
      have bok : ∀ b ∈ bs, b.i < 64 ∧ b.j < 64 ∧ b.n < 64 := fun b hb => by
        obtain ⟨_, o1, o2, _⟩ := I.bok b hb
        omega
      refine ⟨fun σ H2 => ∃ (gf : List V) (fs : List Blk) (a b : Nat) (u1 u2 u3 u4 u5 u6 u7 u8 u9 : Option V), σ = [some (.ref m), u1, u2, u3, u4, u5, u6, u7, u8, u9, some (.ref f)] ∧ Same H H2 ∧ H2 f = some (.lst gf) ∧ Paired (TupIs H2 Blk.v) gf fs ∧ BTo xs ys fs 0 0 a b ∧ a ≤ xs.length ∧ b ≤ ys.length ∧ fs.length ≤ 60, ?_, ?_⟩
      · refine ⟨_, rfl, sa, gs, rfl, SqL.of B.hs, by omega, fun x hx => ?_, fun gs' sp perm pw hsp => ?_⟩
        · obtain ⟨b, hb, t, e, ht⟩ := paired_mem B.ps x hx
          obtain ⟨o1, o2, o3⟩ := bok b hb
          refine ⟨[(b.i : Int), (b.j : Int), (b.n : Int)], ⟨t, e, SqT.of ht⟩, rfl, fun z hz => ?_⟩
          rcases List.mem_cons.mp hz with rfl | hz
          · omega
          rcases List.mem_cons.mp hz with rfl | hz
          · omega
          rw [List.mem_singleton.mp hz]
          omega
        · obtain ⟨bs', hP', pm⟩ := paired_perm perm B.ps
          have cmpB : bs'.Pairwise (fun x y => Cmp x.box y.box) := by
            have q := I.pw
            rw [List.nil_append, List.pairwise_map] at q
            exact (pm.pairwise_iff (fun h => Cmp.symm h)).mpr q
          have befB : bs'.Pairwise Bef := pw_join hP' pw cmpB fun x y b c hb hc fx fy hxy hbc => by
            obtain ⟨t1, e1, h1⟩ := fx
            obtain ⟨t2, e2, h2⟩ := fy
            exact bef_of (I.bok b (pm.mem_iff.mp hb)).1 (I.bok c (pm.mem_iff.mp hc)).1 hbc (bok b (pm.mem_iff.mp hb)) (bok c (pm.mem_iff.mp hc)) (hxy _ _ ⟨t1, e1, SqT.of h1⟩ ⟨t2, e2, SqT.of h2⟩)
          have bl' : bs'.length = bs.length := pm.length_eq
          have gl' : gs'.length = bs'.length := Paired.length hP'
          have hfs : f ≠ sp := ne_of_none hff hsp
          refine ⟨sp, rfl, ⟨_, SqL.of upd_same⟩, for_list (K := K) (a := sp) (xs := gs') (fun k σ H2 => ∃ (gf : List V) (fs : List Blk) (a b : Nat) (u1 u2 u3 u4 u5 u6 u7 u8 u9 : Option V), σ = [some (.ref m), u1, u2, u3, u4, u5, u6, u7, u8, u9, some (.ref f)] ∧ Same H H2 ∧ H2 f = some (.lst gf) ∧ Paired (TupIs H2 Blk.v) gf fs ∧ BTo xs ys fs 0 0 a b ∧ a ≤ xs.length ∧ b ≤ ys.length ∧ fs.length ≤ k ∧
              (∀ c ∈ bs'.drop k, a ≤ c.i ∧ b ≤ c.j) ∧ H2 sp = some (.lst gs') ∧ Paired (TupIs H2 Blk.v) gs' bs')
            ⟨[], [], 0, 0, _, _, _, _, _, _, _, _, _, rfl, B.same.trans (same_new hsp), same_new hsp _ _ hff, .nil, ⟨rfl, rfl⟩, Nat.zero_le _, Nat.zero_le _, Nat.le_refl _, fun c _ => ⟨Nat.zero_le _, Nat.zero_le _⟩, upd_same, tups_new hP' hsp⟩ ?_ ?_ ?_⟩
          · rintro i σ H2 _ ⟨_, _, _, _, _, _, _, _, _, _, _, _, _, _, _, _, _, _, _, _, _, _, h, _⟩
            exact SqL.of h
          · rintro n x σ H2 hx ⟨gf, fs, a, b, u1, u2, u3, u4, u5, u6, u7, u8, u9, rfl, sm, hff, hF, hT, la, lb, ll, hd, hspl, hP⟩
            obtain ⟨g, hg, T0, rfl, hT0⟩ := Paired.at_ hP hx
            have hgm : g ∈ bs' := List.mem_of_getElem? hg
            have gok := I.bok g (pm.mem_iff.mp hgm)
            have hd0 := hd g (by rw [drop_at hg]; exact List.mem_cons_self ..)
            have hd1 : ∀ c ∈ bs'.drop (n + 1), g.i + g.n ≤ c.i ∧ g.j + g.n ≤ c.j := fun c hc => by
              have q : (bs'.drop n).Pairwise Bef := befB.sublist (List.drop_sublist n bs')
              rw [drop_at hg] at q
              exact (List.pairwise_cons.mp q).1 c hc
            have hn : n < 60 := by
              have q := (List.getElem?_eq_some_iff.mp hg).1
              omega
            have hfl : gf.length = fs.length := Paired.length hF
            have lok : gf.length < sizeLine := by rw [sizeLine_eq]; omega
            refine ⟨T0, g.v, rfl, SqT.of hT0, rfl, _, _, rfl, _, _, rfl, _, _, rfl, rfl, ?_⟩
            have post : ∀ H3, Same H2 H3 → ∀ q, H3 q = none → ∃ (gf' : List V) (fs : List Blk) (a b : Nat) (u1' u2' u3' u4' u5' u6' u7' u8' u9' : Option V), [some (V.ref m), u1, u2, u3, u4, u5, u6, some (iv g.i), some (iv g.j), some (iv g.n), some (.ref f)] = [some (.ref m), u1', u2', u3', u4', u5', u6', u7', u8', u9', some (.ref f)] ∧
                Same H (upd (upd H3 q (.tup g.v)) f (.lst (gf ++ [.ref q]))) ∧ upd (upd H3 q (.tup g.v)) f (.lst (gf ++ [.ref q])) f = some (.lst gf') ∧ Paired (TupIs (upd (upd H3 q (.tup g.v)) f (.lst (gf ++ [.ref q]))) Blk.v) gf' fs ∧ BTo xs ys fs 0 0 a b ∧ a ≤ xs.length ∧ b ≤ ys.length ∧ fs.length ≤ n + 1 ∧
                (∀ c ∈ bs'.drop (n + 1), a ≤ c.i ∧ b ≤ c.j) ∧ upd (upd H3 q (.tup g.v)) f (.lst (gf ++ [.ref q])) sp = some (.lst gs') ∧ Paired (TupIs (upd (upd H3 q (.tup g.v)) f (.lst (gf ++ [.ref q]))) Blk.v) gs' bs' := by
              intro H3 s3 q hq
              have h3 : upd H3 q (.tup g.v) f = some (.lst gf) := same_new hq _ _ (s3 _ _ hff)
              refine ⟨gf ++ [.ref q], fs ++ [g], _, _, _, _, _, _, _, _, _, _, _, rfl, same_put hf0 ((sm.trans s3).trans (same_new hq)), upd_same, tups_updL (Paired.snoc (tups_new (tups_mono hF s3) hq) ⟨q, rfl, upd_same⟩) h3, hT.snoc hd0.1 hd0.2 gok.2, gok.2.1, gok.2.2.1, ?_, hd1, ?_, tups_updL (tups_new (tups_mono hP s3) hq) h3⟩
              · rw [List.length_append, List.length_singleton]
                omega
              · rw [upd_ne hfs.symm]
                exact same_new hq _ _ (s3 _ _ hspl)
            refine ⟨_, rfl, Nat.zero_le _, fun z hz => ⟨f, z, gf, rfl, rfl, SqL.of (same_new hz _ _ hff), upd_same, _, rfl, ?_⟩⟩
            have s3 : Same H2 (upd H2 z (.lst [])) := same_new hz
            rcases nil_or_snoc gf with rfl | ⟨l, x0, rfl⟩
            · refine iteF (iteF ⟨_, rfl, .inl ⟨rfl, _, SqL.of (s3 _ _ hff)⟩, _, rfl, _, rfl, _, rfl, sl3, fun q hq => ⟨f, [], _, rfl, rfl, same_new hq _ _ (s3 _ _ hff), lok, post _ s3 q hq⟩⟩)
            · refine iteB (fun _ => ?_) fun q => absurd q (by simp)
              obtain ⟨fs0, f0, rfl, hF0, T1, rfl, hT1⟩ := paired_snoc hF
              obtain ⟨ea, eb, fok⟩ := hT.last
              have rd : SqL K (upd H2 z (.lst [])) f (l ++ [V.ref T1]) := SqL.of (s3 _ _ hff)
              have rt : SqT K (upd H2 z (.lst [])) T1 f0.v := SqT.of (s3 _ _ hT1)
              refine ⟨_, rfl, _, rfl, f, _, _, _, rfl, rfl, rd, atI_last _ _, T1, _, _, _, rfl, rfl, rt, at_of (j := 0) rfl rfl, _, rfl, _, rfl, f, _, _, _, rfl, rfl, rd, atI_last _ _, T1, _, _, _, rfl, rfl, rt, at_of (j := 2) rfl rfl, _, _, rfl, rfl, _, rfl, rfl, _, rfl, iteD (fun c1 => ?_) fun c1 => iteF ?_⟩
              · refine ⟨_, rfl, _, rfl, f, _, _, _, rfl, rfl, rd, atI_last _ _, T1, _, _, _, rfl, rfl, rt, at_of (j := 1) rfl rfl, _, rfl, _, rfl, f, _, _, _, rfl, rfl, rd, atI_last _ _, T1, _, _, _, rfl, rfl, rt, at_of (j := 2) rfl rfl, _, _, rfl, rfl, _, rfl, rfl, _, rfl, iteD (fun c2 => ?_) fun c2 => ?_⟩
                · have q1 : (f0.i : Int) + f0.n = g.i := by injection c1
                  have q2 : (f0.j : Int) + f0.n = g.j := by injection c2
                  refine ⟨_, rfl, _, rfl, f, _, _, _, rfl, rfl, rd, atI_last _ _, T1, _, _, _, rfl, rfl, rt, at_of (j := 0) rfl rfl, _, rfl, _, rfl, f, _, _, _, rfl, rfl, rd, atI_last _ _, T1, _, _, _, rfl, rfl, rt, at_of (j := 1) rfl rfl,
                    _, rfl, _, rfl, f, _, _, _, rfl, rfl, rd, atI_last _ _, T1, _, _, _, rfl, rfl, rt, at_of (j := 2) rfl rfl, _, rfl, _, _, rfl, rfl, sl3, fun q hq => ?_⟩
                  have h3 : upd (upd H2 z (.lst [])) q (.tup (Blk.v ⟨f0.i, f0.j, f0.n + g.n⟩)) f = some (.lst (l ++ [V.ref T1])) := same_new hq _ _ (s3 _ _ hff)
                  refine ⟨_, rfl, _, rfl, f, _, _, l.length, rfl, rfl, h3, ?_, ?_⟩
                  · unfold ixN
                    rw [if_neg (by decide), if_pos (by simp; omega)]
                    simp
                    omega
                  · have e : (l ++ [V.ref T1]).set l.length (V.ref q) = l ++ [V.ref q] := by simp
                    rw [e]
                    refine ⟨l ++ [V.ref q], fs0 ++ [⟨f0.i, f0.j, f0.n + g.n⟩], _, _, _, _, _, _, _, _, _, _, _, rfl, same_put hf0 ((sm.trans s3).trans (same_new hq)), upd_same, tups_updL (Paired.snoc (tups_new (tups_mono hF0 s3) hq) ⟨q, rfl, upd_same⟩) h3, hT.merge gok.2 (by omega) (by omega), gok.2.1, gok.2.2.1, ?_, hd1, ?_, tups_updL (tups_new (tups_mono hP s3) hq) h3⟩
                    · rw [List.length_append] at ll ⊢
                      simp only [List.length_singleton] at ll ⊢
                      omega
                    · rw [upd_ne hfs.symm]
                      exact same_new hq _ _ (s3 _ _ hspl)
                · exact ⟨_, rfl, .inl ⟨rfl, _, SqL.of (s3 _ _ hff)⟩, _, rfl, _, rfl, _, rfl, sl3, fun q hq => ⟨f, _, _, rfl, rfl, same_new hq _ _ (s3 _ _ hff), lok, post _ s3 q hq⟩⟩
              · exact ⟨_, rfl, .inl ⟨rfl, _, SqL.of (s3 _ _ hff)⟩, _, rfl, _, rfl, _, rfl, sl3, fun q hq => ⟨f, _, _, rfl, rfl, same_new hq _ _ (s3 _ _ hff), lok, post _ s3 q hq⟩⟩
          · rintro σ H2 ⟨gf, fs, a, b, u1, u2, u3, u4, u5, u6, u7, u8, u9, rfl, sm, hff, hF, hT, la, lb, ll, _⟩
            exact ⟨gf, fs, a, b, _, _, _, _, _, _, _, _, _, rfl, sm, hff, hF, hT, la, lb, by omega⟩
      · rintro σ H2 ⟨gf, fs, a, b, u1, u2, u3, u4, u5, u6, u7, u8, u9, rfl, sm, hff, hF, hT, la, lb, ll⟩
        have hfl : gf.length = fs.length := Paired.length hF
        have M2 := M'
        refine ⟨_, rfl, _, rfl, m, _, dx, _, _, rfl, sm _ _ M'.ob, T.c_Matcher, T.no_Matcher_first, mf_first, _, xs.length, rfl, .inr ⟨_, SqT.of (sm _ _ M'.one), by simp⟩, _, rfl, m, _, dx, _, _, rfl, sm _ _ M'.ob, T.c_Matcher, T.no_Matcher_second, mf_second, _, ys.length, rfl, .inr ⟨_, SqT.of (sm _ _ M'.oth), by simp⟩,
          sl3, fun q hq => ⟨sl1, fun q2 hq2 => ⟨f, q2, gf, _, rfl, rfl, same_new hq2 _ _ (same_new hq _ _ hff), upd_same, ?_, fun pp hpp => ?_⟩⟩⟩
        · rw [sizeLine_eq]
          show gf.length + 1 ≤ _
          omega
        · have hB := hT.close la lb
          refine k _ pp (gf ++ [.ref q]) (fs ++ [⟨xs.length, ys.length, 0⟩]) (((sm.trans (same_new hq)).trans (same_new hq2)).trans (same_new hpp)) upd_same (Paired.snoc (tups_new (tups_new (tups_new hF hq) hq2) hpp) ⟨q, rfl, same_new hpp _ _ (same_new hq2 _ _ upd_same)⟩) hB ?_ fun b hb => ?_
          · rw [List.length_append, List.length_singleton]
            omega
          · have q := blks_n hB b hb
            omega
end
end TwK

set_option Elab.async false
set_option linter.all false
set_option maxRecDepth 100000
set_option maxHeartbeats 2000000
set_option pp.deepTerms false
set_option pp.deepTerms.threshold 6
namespace TwK
open PySem PySem.Spec PyProof.Rows L2 SX
/-- all but what stands at L is kept -/
def SameX (L : List Addr) (H H' : Hp) : Prop := ∀ b o, b ∉ L → H b = some o → H' b = some o
section
variable {L : List Addr} {H H' H'' : Hp} {p : Addr} {o : HO}
theorem sx_refl : SameX L H H := fun b o _ h => h
theorem sx_call (a : SameX L H H') (s : Same H' H'') : SameX L H H'' := fun b o n h => s _ _ (a b o n h)
theorem sx_trans (a : SameX L H H') (s : SameX L H' H'') : SameX L H H'' := fun b o n h => s b o n (a b o n h)
theorem sx_of (s : Same H H') : SameX L H H' := fun b o _ h => s _ _ h
theorem sx_new (a : SameX L H H') (hp : H' p = none) : SameX L H (upd H' p o) := sx_call a (same_new hp)
theorem sx_in (a : SameX L H H') (hp : p ∈ L) : SameX L H (upd H' p o) := fun b u n h => by rw [upd_ne (fun e => n (by rw [e]; exact hp))]; exact a b u n h
theorem sx_put (a : SameX L H H') (hp : H p = none) : SameX L H (upd H' p o) := fun b u n h => by rw [upd_ne (ne_of_none h hp)]; exact a b u n h
/-- what is not there, after what is kept -/
theorem sx_free (a : SameX L H H') (hp : p ∉ L) (h : H' p = none) : H p = none := by
  cases e : H p with
  | none => rfl
  | some o => rw [a p o hp e] at h; cases h
theorem sx_same (a : SameX L H H') (h0 : ∀ b ∈ L, H b = none) : Same H H' := fun b u h => a b u (fun z => by rw [h0 b z] at h; cases h) h
end
def SeqV (K : PySem.W.Frag) (H : Hp) (v : V) (xs : List Ln) : Prop := (∃ a, v = .ref a ∧ SqL K H a (xs.map tv)) ∨ ∃ l : List Nat, v = tv l ∧ l.length ≤ 1000 ∧ xs = l.map fun c => [c]
theorem SeqV.mono {K : PySem.W.Frag} {H H' : Hp} {v : V} {xs : List Ln} (h : SeqV K H v xs) (s : Same H H') : SeqV K H' v xs := by
  rcases h with ⟨a, e, q⟩ | q
  · exact .inl ⟨a, e, s.seq q⟩
  · exact .inr q
theorem row_use {K : PySem.W.Frag} {H : Hp} {v : V} {xs : List Ln} {Q : VK} {E : XK} (h : SeqV K H v xs) (q : ∀ t, H t = none → Q (.ref t) (upd H t (.tup (xs.map tv)))) : spRow K [v] H Q E := by
  rcases h with ⟨a, rfl, hs⟩ | ⟨l, rfl, hl, rfl⟩
  · exact .inl ⟨a, _, rfl, hs, q⟩
  · refine .inr ⟨l, rfl, hl, fun t ht => ?_⟩
    have z := q t ht
    rw [List.map_map] at z
    exact z
section
variable {P : Program} {w : World} {K : PySem.W.Frag} {mg : Str → Option Value} {base : Heap}
theorem sc_mcodes : FnScope ["self"] ["self"] (defScope sMCodes) := ⟨rfl, rfl, rfl, by decide +kernel, rfl, by decide +kernel, by decide +kernel⟩
def spMCodes (K : PySem.W.Frag) : Sp := fun vs H Q _ => ∃ (m : Addr) (xs ys : List Ln), vs = [.ref m] ∧ MAt K H m xs ys ∧ xs.length ≤ 60 ∧ ys.length ≤ 60 ∧
  ∀ (H' : Hp) (p : Addr) (cs : List Code), Same H H' → TupsAt (New H H') Code.v p cs → Lead xs ys cs 0 0 xs.length ys.length → cs.length ≤ 2000 → Q (.ref p) H'
theorem ok_mcodes (T : TX K mg) (cb : C8.Met P w K mg base 4 (He.ga K "Matcher") "blocks" (spBlocks K) []) (cc : C8.Cal P w K mg base 2 "codes_between" (spCodes K) []) : C8.Met P w K mg base 5 (He.ga K "Matcher") "codes" (spMCodes K) [] := by
  refine metN T.f_MCodes T.c_Matcher T.me_Matcher_codes sc_mcodes (fun _ _ _ _ _ _ us hl => match us, hl with | [_], _ => rfl) (fun vs H Q E h => ?_) (fun cdv A outer s H vs Q E hr h => ?_)
  · obtain ⟨m, xs, ys, rfl, _⟩ := h
    rfl
  · obtain ⟨m, xs, ys, rfl, M, hX, hY, k⟩ := h
    obtain ⟨dx, jv, a, b, d, j, p, kvs, js, M'⟩ := id M
    refine ⟨_, (pss_one (ps_ret (C8.pe_c cc hr (by decide) rfl (pa_cons (C8.pe_mt0 cb hr (by decide) (pv 0)) pa_nil)))), ?_⟩
    refine ⟨_, rfl, m, dx, _, rfl, M'.ob, mf_no7, m, xs, ys, rfl, M, hX, hY, fun H1 p us bs s1 hp hP hB hl _ => ?_⟩
    exact ⟨p, us, xs, ys, bs, rfl, SqL.of hp, hP, hB, by omega, fun H2 p2 cs s2 hC hL hcl => k H2 p2 cs (s1.trans s2) (hC.mono (new_trans s1)) hL hcl⟩
theorem sc_whole : FnScope ["self", "part", "total"] ["self", "part"] (defScope sMWhole) := ⟨rfl, rfl, rfl, by decide +kernel, rfl, by decide +kernel, by decide +kernel⟩
def Small (a : Int) : Prop := -1000000 ≤ a ∧ a ≤ 1000000
def spWhole (K : PySem.W.Frag) : Sp := fun vs H Q _ => ∃ (m : Addr) (n : Int) (xs ys : List Ln), vs = [.ref m, .int n] ∧ MAt K H m xs ys ∧ xs.length ≤ 1000 ∧ ys.length ≤ 1000 ∧ Small n ∧ ∀ (p : Addr) (a b : Int), H p = none → Small a → Small b → Q (.ref p) (upd H p (.tup [.int a, .int b]))
theorem ok_whole (T : TX K mg) : C8.Met P w K mg base 1 (He.ga K "Matcher") "whole" (spWhole K) [] := by
  refine metN T.f_MWhole T.c_Matcher T.me_Matcher_whole sc_whole (fun _ _ _ _ _ _ us hl => match us, hl with | [_, _], _ => rfl) (fun vs H Q E h => ?_) (fun cdv A outer s H vs Q E hr h => ?_)
  · obtain ⟨m, n, xs, ys, rfl, _⟩ := h
    rfl
  · obtain ⟨m, n, xs, ys, rfl, M, hX, hY, hn, k⟩ := h
    obtain ⟨dx, jv, a, b, d, j, p, kvs, js, M'⟩ := id M
    have nd := sc_whole.nd
    refine ⟨_, (pss_cons (ps_set (i := 2) nd rfl (.inl rfl) (pe_op op_add (pe_callB call_len (by rfl) T.n_len PySem.boot_len (pa_cons (pe_fld (pv 0) (by rfl)) pa_nil)) (pe_callB call_len (by rfl) T.n_len PySem.boot_len (pa_cons (pe_fld (pv 0) (by rfl)) pa_nil))))
  (pss_one (ps_ret (pe_ifExp (pt_cmpR op_eq (pv 2) pe_int (nomark _)) (pe_tup (pa_cons pe_int (pa_cons pe_int pa_nil))) (pe_tup (pa_cons (pv 1) (pa_cons (pv 2) pa_nil))))))), ?_⟩
    refine ⟨_, rfl, m, _, dx, _, _, rfl, M'.ob, T.c_Matcher, T.no_Matcher_first, mf_first, _, xs.length, rfl, .inr ⟨_, SqT.of M'.one, by simp⟩, _, rfl, m, _, dx, _, _, rfl, M'.ob, T.c_Matcher, T.no_Matcher_second, mf_second, _, ys.length, rfl, .inr ⟨_, SqT.of M'.oth, by simp⟩, _, _, rfl, rfl, ?_⟩
    refine ⟨_, rfl, rfl, _, rfl, iteD (fun _ => ⟨sl2, fun q hq => k q 1 1 hq ⟨by decide, by decide⟩ ⟨by decide, by decide⟩⟩) fun _ => ⟨_, rfl, _, rfl, sl2, fun q hq => k q n _ hq hn ⟨?_, ?_⟩⟩⟩
    · omega
    · omega
theorem sc_ratio : FnScope ["self", "i", "j", "size"] ["self"] (defScope sMRatio) := ⟨rfl, rfl, rfl, by decide +kernel, rfl, by decide +kernel, by decide +kernel⟩
def spRatio (K : PySem.W.Frag) : Sp := fun vs H Q _ => ∃ (m : Addr) (xs ys : List Ln), vs = [.ref m] ∧ MAt K H m xs ys ∧ xs.length ≤ 60 ∧ ys.length ≤ 60 ∧ ∀ (H' : Hp) (p : Addr) (a b : Int), Same H H' → H' p = some (.tup [.int a, .int b]) → Small a → Small b → Q (.ref p) H'
theorem sum_small : ∀ {l : List Blk}, (∀ b ∈ l, b.n ≤ 60) → 0 ≤ (l.map fun b => (b.n : Int)).sum ∧ (l.map fun b => (b.n : Int)).sum ≤ 60 * l.length
  | [], _ => ⟨Int.le_refl _, Int.le_refl _⟩
  | b :: l, h => by
    have q := sum_small (l := l) fun c hc => h c (List.mem_cons_of_mem _ hc)
    have e := h b (List.mem_cons_self ..)
    rw [List.map_cons, List.sum_cons, List.length_cons]
    omega
theorem ok_ratio (T : TX K mg) (cb : C8.Met P w K mg base 4 (He.ga K "Matcher") "blocks" (spBlocks K) []) (cw : C8.Met P w K mg base 1 (He.ga K "Matcher") "whole" (spWhole K) []) : C8.Met P w K mg base 5 (He.ga K "Matcher") "ratio" (spRatio K) [] := by
  refine metN T.f_MRatio T.c_Matcher T.me_Matcher_ratio sc_ratio (fun _ _ _ _ _ _ us hl => match us, hl with | [_], _ => rfl) (fun vs H Q E h => ?_) (fun cdv A outer s H vs Q E hr h => ?_)
  · obtain ⟨m, xs, ys, rfl, _⟩ := h
    rfl
  · obtain ⟨m, xs, ys, rfl, M, hX, hY, k⟩ := h
    obtain ⟨dx, jv, a, b, d, j, p, kvs, js, M'⟩ := id M
    have nd := sc_ratio.nd
    refine ⟨_, (pss_one (ps_ret (C8.pe_mt cw hr (by decide) (pv 0) (pa_cons (pe_op op_mul pe_int (pe_callB (cr_sum rfl) (by rfl) T.n_sum (by decide +kernel) (pa_cons (pe_lc (own := [("i", 1), ("j", 2), ("size", 3)]) (g := gTup K 3 (gCons (gName 1) (gCons (gName 2) (gCons (gName 3) gNil)))) (by rfl) nd (pi_list (C8.pe_mt0 cb hr (by decide) (pv 0))) (blkOk_by (own := [("i", 1), ("j", 2), ("size", 3)]) (N := ["self", "i", "j", "size"]) (sc := defScope sMRatio) (by decide +kernel)) (fun _ _ _ _ _ => (pg_tup (by rfl) (pgs_cons (pg_name (i := 1) nd rfl (.inl rfl)) (pgs_cons (pg_name (i := 2) nd rfl (.inl rfl)) (pgs_cons (pg_name (i := 3) nd rfl (.inl rfl)) pgs_nil)))))
        (fun _ _ _ _ _ => pts_nil) (fun _ _ _ _ _ => pv 3)) pa_nil))) pa_nil)))), ?_⟩
    refine ⟨_, rfl, m, dx, _, rfl, M'.ob, mf_no9, _, rfl, m, dx, _, rfl, M'.ob, mf_no7, m, xs, ys, rfl, M, hX, hY, fun H1 q us bs s1 hq hP hB hl hn => ?_⟩
    refine ⟨q, rfl, ⟨_, SqL.of hq⟩, fun D hD => lc_list (K := K) (a := q) (xs := us) (fun i H2 => Bld H1 H2 D (((bs.take i).map fun b => (b.n : Int)).map V.int)) (Bld.start (Same.refl _) hD) (fun i H2 _ B => SqL.of (B.same _ _ hq)) ?_ ?_⟩
    · rintro i x H2 hx B
      obtain ⟨c, hc, t, rfl, ht⟩ := Paired.at_ hP hx
      refine ⟨t, c.v, rfl, SqT.of (B.same _ _ ht), rfl, _, _, rfl, _, _, rfl, _, _, rfl, rfl, rfl, ⟨_, rfl, _, B.at_, ?_, ?_⟩⟩
      · rw [List.length_map, List.length_map, List.length_take, sizeLine_eq]
        omega
      · rw [take_at hc, List.map_append, List.map_append]
        exact B.push
    · rintro H2 B
      have sm := sum_small (l := bs.take us.length) fun b hb => hn b (List.mem_of_mem_take hb)
      have sl : (bs.take us.length).length ≤ 61 := by
        rw [List.length_take]
        omega
      refine ⟨D, _, rfl, SqL.of B.at_, _, _, rfl, rfl, .inl ⟨by decide, by decide⟩, ?_⟩
      have s2 := s1.trans B.same
      exact ⟨m, _, xs, ys, rfl, M.mono s2, by omega, by omega, ⟨by omega, by omega⟩, fun p a b hp ha hb => k _ p a b (s2.trans (same_new hp)) upd_same ha hb⟩
theorem sc_setone : FnScope ["self", "sequence"] ["self", "sequence"] (defScope sMSetOne) := ⟨rfl, rfl, rfl, by decide +kernel, rfl, by decide +kernel, by decide +kernel⟩
def spSetOne (K : PySem.W.Frag) : Sp := fun vs H Q _ => ∃ (m : Addr) (v : V) (xs ys xs' : List Ln), vs = [.ref m, v] ∧ MAt K H m xs ys ∧ SeqV K H v xs' ∧ ∀ H' : Hp, SameX [m] H H' → MAt K H' m xs' ys → Q .non H'
theorem lamAt_upd {H : Hp} {f bad x : Addr} {d : LamD} {ls : List (List Nat)} {u o : HO} (L : LamAt H f d bad ls) (hx : H x = some u) (n1 : ∀ φ, u ≠ .ext φ) (n2 : ∀ l, u ≠ .lst l) : LamAt (upd H x o) f d bad ls := by
  have ne : ∀ {y : Addr} {u' : HO}, H y = some u' → u' ≠ u → y ≠ x := fun hy z e => by
    rw [e, hx] at hy
    exact z (Option.some.inj hy).symm
  refine ⟨L.par, ?_, ?_, ?_, ?_⟩
  · rw [upd_ne (ne L.fn (by unfold LamO; exact fun z => n1 _ z.symm))]
    exact L.fn
  · rw [upd_ne (ne L.cd (by unfold LamX.CodeO; exact fun z => n1 _ z.symm))]
    exact L.cd
  · rw [upd_ne (ne L.cl (by unfold CellO; exact fun z => n1 _ z.symm))]
    exact L.cl
  · rw [upd_ne (ne L.bd (fun z => n2 _ z.symm))]
    exact L.bd
theorem JunkV.upS {K : PySem.W.Frag} {H : Hp} {v : V} {x : Addr} {u o : HO} (j : JunkV K H v) (hx : H x = some u) (n1 : ∀ φ, u ≠ .ext φ) (n2 : ∀ l, u ≠ .lst l) : JunkV K (upd H x o) v := by
  rcases j with e | e | e | ⟨f, d, bad, ls, e, L⟩
  · exact .inl e
  · exact .inr (.inl e)
  · exact .inr (.inr (.inl e))
  · exact .inr (.inr (.inr ⟨f, d, bad, ls, e, lamAt_upd L hx n1 n2⟩))
theorem FoundOk.upS {H : Hp} {ys : List Ln} {kvs : List (Key × V)} {x : Addr} {u o : HO} (f : FoundOk H ys kvs) (hx : H x = some u) (n2 : ∀ l, u ≠ .lst l) : FoundOk (upd H x o) ys kvs := fun p hp => by
  obtain ⟨l, q, js, e, h, r⟩ := f p hp
  refine ⟨l, q, js, e, ?_, r⟩
  rw [upd_ne (fun z => by rw [z, hx] at h; exact n2 _ (Option.some.inj h))]
  exact h
theorem ok_setone (T : TX K mg) (cr : C8.Cal P w K mg base 1 "row_of" (spRow K) []) : C8.Met P w K mg base 2 (He.ga K "Matcher") "set_one" (spSetOne K) [] := by
  refine metN T.f_MSetOne T.c_Matcher T.me_Matcher_set_one sc_setone (fun _ _ _ _ _ _ us hl => match us, hl with | [_, _], _ => rfl) (fun vs H Q E h => ?_) (fun cdv A outer s H vs Q E hr h => ?_)
  · obtain ⟨m, v, xs, ys, xs', rfl, _⟩ := h
    rfl
  · obtain ⟨m, v, xs, ys, xs', rfl, M, hS, k⟩ := h
    obtain ⟨dx, jv, a, b, d, j, p, kvs, js, M⟩ := M
    refine ⟨_, (pss_one (ps_fld (pv 0) (C8.pe_c cr hr (by decide) rfl (pa_cons (pv 1) pa_nil)) rfl)), ?_⟩
    refine ⟨_, rfl, ?_⟩
    dsimp only [tNil, tCons]
    refine row_use hS fun t ht => ⟨_, rfl, m, _, dx, _, rfl, same_new ht _ _ M.ob, T.c_Matcher, T.no_Matcher_first, mf_len, ?_⟩
    have st : Same H (upd H t (.tup (xs'.map tv))) := same_new ht
    have hm := st _ _ M.ob
    have ne : ∀ {x : Addr} {u : HO}, upd H t (.tup (xs'.map tv)) x = some u → (∀ C dx fs, u ≠ .ins C dx fs) → x ≠ m := fun h z e => by
      rw [e, hm] at h
      exact z _ _ _ (Option.some.inj h).symm
    rw [mf_put1]
    refine k _ (sx_in (sx_of st) (List.mem_singleton.mpr rfl)) ⟨dx, jv, t, b, d, j, p, kvs, js, upd_same, ?_, ?_, ?_, ?_, ?_, ?_⟩
    · rw [upd_ne (ne upd_same (by intros; intro z; cases z))]
      exact upd_same
    · rw [upd_ne (ne (st _ _ M.oth) (by intros; intro z; cases z))]
      exact st _ _ M.oth
    · rw [upd_ne (ne (st _ _ M.fd) (by intros; intro z; cases z))]
      exact st _ _ M.fd
    · exact (M.fo.mono st).upS hm (by intro l z; cases z)
    · rw [upd_ne (ne (st _ _ M.jk) (by intros; intro z; cases z))]
      exact st _ _ M.jk
    · exact (M.jf.mono st).upS hm (by intro l z; cases z) (by intro l z; cases z)
end
end TwK

set_option Elab.async false
set_option linter.all false
set_option maxRecDepth 100000
set_option maxHeartbeats 2000000
set_option pp.deepTerms false
set_option pp.deepTerms.threshold 6
namespace TwK
open PySem PySem.Spec PyProof.Rows L2 SX
/-! ### set_other -/
abbrev rNotN : R2 := fun x y H Q => y = .non ∧ Q (.bl (!decide (x = .non))) H
abbrev rIsN : R2 := fun x y H Q => y = .non ∧ Q (.bl (decide (x = .non))) H
def FoundN (H0 H : Hp) (ys : List Ln) (n : Nat) (kvs : List (Key × V)) : Prop := ∀ p ∈ kvs, ∃ (l : Ln) (q : Addr) (js : List Nat), p = (.inr (S l), .ref q) ∧ H q = some (.lst (js.map iv)) ∧ js ≠ [] ∧ js.length ≤ n ∧ l ∈ ys ∧ (∀ j ∈ js, ys[j]? = some l) ∧ H0 q = none
theorem FoundN.ok {H0 H : Hp} {ys : List Ln} {n : Nat} {kvs : List (Key × V)} (f : FoundN H0 H ys n kvs) (hn : n ≤ 1000) : FoundOk H ys kvs := fun p hp => by
  obtain ⟨l, q, js, e, h, h1, h2, h3, h4, _⟩ := f p hp
  exact ⟨l, q, js, e, h, h1, by omega, h3, h4⟩
theorem FoundN.mono {H0 H H' : Hp} {ys : List Ln} {n n' : Nat} {kvs : List (Key × V)} (f : FoundN H0 H ys n kvs) (s : Same H H') (hn : n ≤ n') : FoundN H0 H' ys n' kvs := fun p hp => by
  obtain ⟨l, q, js, e, h, h1, h2, r⟩ := f p hp
  exact ⟨l, q, js, e, s _ _ h, h1, by omega, r⟩
theorem FoundN.upS {H0 H : Hp} {ys : List Ln} {n : Nat} {kvs : List (Key × V)} {x : Addr} {u o : HO} (f : FoundN H0 H ys n kvs) (hx : H x = some u) (n2 : ∀ l, u ≠ .lst l) : FoundN H0 (upd H x o) ys n kvs := fun p hp => by
  obtain ⟨l, q, js, e, h, r⟩ := f p hp
  refine ⟨l, q, js, e, ?_, r⟩
  rw [upd_ne (fun z => by rw [z, hx] at h; exact n2 _ (Option.some.inj h))]
  exact h
theorem iv_inj {js js' : List Nat} (h : js.map iv = js'.map iv) : js = js' := by
  refine (List.map_inj_right fun x y e => ?_).mp h
  have q : ((x : Nat) : Int) = (y : Int) := by injection e
  omega
theorem found_old {H0 H : Hp} {ys : List Ln} {n i : Nat} {kvs : List (Key × V)} {l : Ln} {v : V} (f : FoundN H0 H ys n kvs) (hv : valV kvs (.inr (S l)) = some v) (hy : ys[i]? = some l) :
    ∃ (q : Addr) (js : List Nat), v = .ref q ∧ H q = some (.lst (js.map iv)) ∧ js.length ≤ n ∧ H0 q = none ∧ FoundN H0 (upd H q (.lst (js.map iv ++ [iv i]))) ys (n + 1) kvs := by
  obtain ⟨l', q, js, e, h, h1, h2, h3, h4, h5⟩ := f _ (val_mem hv)
  injection e with e1 e2
  have el : l = l' := S_inj (Sum.inr.inj e1)
  subst el e2
  refine ⟨q, js, rfl, h, h2, h5, fun p hp => ?_⟩
  obtain ⟨l', q', js', e, g, g1, g2, g3, g4, g5⟩ := f p hp
  by_cases z : q' = q
  · subst z
    rw [h] at g
    have ej : js = js' := iv_inj (by injection (Option.some.inj g))
    subst ej
    obtain ⟨j0, hj0⟩ := List.exists_mem_of_ne_nil _ h1
    have el : l = l' := Option.some.inj ((h4 j0 hj0).symm.trans (g4 j0 hj0))
    subst el
    refine ⟨l, q', js ++ [i], e, ?_, by simp, by simp; omega, h3, fun j hj => ?_, h5⟩
    · rw [List.map_append]
      exact upd_same
    · rcases List.mem_append.mp hj with hj | hj
      · exact h4 j hj
      · rw [List.mem_singleton.mp hj]
        exact hy
  · exact ⟨l', q', js', e, by rw [upd_ne z]; exact g, g1, by omega, g3, g4, g5⟩
theorem found_fresh {H0 H : Hp} {ys : List Ln} {n i : Nat} {kvs : List (Key × V)} {l : Ln} {z : Addr} (f : FoundN H0 H ys n kvs) (hv : valV kvs (.inr (S l)) = none) (hz : H z = some (.lst [])) (hz0 : H0 z = none) (hy : ys[i]? = some l) :
    FoundN H0 (upd H z (.lst [iv i])) ys (n + 1) (putK kvs (.inr (S l)) (.ref z)) := by
  rw [putK_new _ hv]
  intro p hp
  rcases List.mem_append.mp hp with hp | hp
  · obtain ⟨l', q', js', e, g, g1, g2, g3, g4, g5⟩ := f p hp
    refine ⟨l', q', js', e, ?_, g1, by omega, g3, g4, g5⟩
    rw [upd_ne (fun x => by
      rw [x, hz] at g
      have q : ([] : List V) = js'.map iv := by injection (Option.some.inj g)
      exact g1 (List.map_eq_nil_iff.mp q.symm))]
    exact g
  · rw [List.mem_singleton.mp hp]
    exact ⟨l, z, [i], rfl, upd_same, by simp, by simp, List.mem_of_getElem? hy, fun j hj => by rw [List.mem_singleton.mp hj]; exact hy, hz0⟩
theorem val_none_key {kvs : List (Key × V)} {k : Key} (h : valV kvs k = none) : k ∉ kvs.map (·.1) := fun hm => by
  obtain ⟨p, hp, e⟩ := List.mem_map.mp hm
  unfold valV at h
  have q : kvs.find? (fun kv => decide (kv.1 = k)) = none := by
    cases z : kvs.find? (fun kv => decide (kv.1 = k)) with
    | none => rfl
    | some y => rw [z] at h; cases h
  have r := List.find?_eq_none.mp q p hp
  simp [e] at r
theorem val_key {kvs : List (Key × V)} {k : Key} (h : k ∈ kvs.map (·.1)) : ∃ v, valV kvs k = some v := by
  cases e : valV kvs k with
  | none => exact absurd h (val_none_key e)
  | some v => exact ⟨v, rfl⟩
theorem val_drop {kvs : List (Key × V)} {k k' : Key} (h : k' ≠ k) : valV (dropK kvs k) k' = valV kvs k' := by
  unfold dropK
  induction kvs with
  | nil => rfl
  | cons p r ih =>
    rw [List.filter_cons]
    by_cases e : p.1 = k
    · rw [if_neg (by simp [e]), ih, valV_neg (fun z => h (z.symm.trans e))]
    · rw [if_pos (by simp [e])]
      by_cases e2 : p.1 = k'
      · rw [valV_pos e2, valV_pos e2]
      · rw [valV_neg e2, valV_neg e2, ih]
theorem nodup_put {kvs : List (Key × V)} {k : Key} {v : V} (h : (kvs.map (·.1)).Nodup) (hn : valV kvs k = none) : ((putK kvs k v).map (·.1)).Nodup := by
  rw [putK_new _ hn, List.map_append]
  refine List.nodup_append.mpr ⟨h, by simp, fun x hx y hy e => ?_⟩
  rw [List.map_singleton, List.mem_singleton] at hy
  rw [e, hy] at hx
  exact val_none_key hn hx
abbrev kL (l : Ln) : Key := .inr (S l)
theorem JunkV.sx {K : PySem.W.Frag} {H H' : Hp} {v : V} {m C dx : Addr} {fs : List (Str × V)} (j : JunkV K H v) (hm : H m = some (.ins C dx fs)) (s : SameX [m] H H') : JunkV K H' v := by
  rcases j with e | e | e | ⟨f, d, bad, ls, e, L⟩
  · exact .inl e
  · exact .inr (.inl e)
  · exact .inr (.inr (.inl e))
  · have ne : ∀ {y : Addr} {u : HO}, H y = some u → u ≠ .ins C dx fs → y ∉ [m] := fun hy z e => by
      rw [List.mem_singleton.mp e, hm] at hy
      exact z (Option.some.inj hy).symm
    refine .inr (.inr (.inr ⟨f, d, bad, ls, e, L.par, s _ _ (ne L.fn (by unfold LamO; intro z; cases z)) L.fn, s _ _ (ne L.cd (by unfold LamX.CodeO; intro z; cases z)) L.cd, s _ _ (ne L.cl (by unfold CellO; intro z; cases z)) L.cl, s _ _ (ne L.bd (by intro z; cases z)) L.bd⟩))
section
variable {P : Program} {w : World} {K : PySem.W.Frag} {mg : Str → Option Value} {base : Heap}
theorem sc_setother : FnScope ["self", "sequence", "place", "thing", "most"] ["self", "sequence"] (defScope sMSetOther) := ⟨rfl, rfl, rfl, by decide +kernel, rfl, by decide +kernel, by decide +kernel⟩
def spSetOther (K : PySem.W.Frag) : Sp := fun vs H Q _ => ∃ (m dx a b d j p : Addr) (jv v : V) (xs ys : List Ln), vs = [.ref m, v] ∧ H m = some (.ins (He.ga K "Matcher") dx (mf jv a b d j p)) ∧ H a = some (.tup (xs.map tv)) ∧ JunkV K H jv ∧ SeqV K H v ys ∧ Sm ys ∧
  ∀ H' : Hp, SameX [m] H H' → MAt K H' m xs ys → Q .non H'
/-- behind each stage -/
structure SO (K : PySem.W.Frag) (H H' : Hp) (m dx a b d j p : Addr) (jv : V) (ys : List Ln) (n : Nat) (kvs : List (Key × V)) : Prop where
  sx : SameX [m] H H'
  ob : H' m = some (.ins (He.ga K "Matcher") dx (mf jv a b d j p))
  hb : H' b = some (.tup (ys.map tv))
  hd : H' d = some (.dK kvs)
  nd : H d = none
  fo : FoundN H H' ys n kvs
theorem SO.call {H H' H'' : Hp} {m dx a b d j p : Addr} {jv : V} {ys : List Ln} {n : Nat} {kvs : List (Key × V)} (h : SO K H H' m dx a b d j p jv ys n kvs) (s : Same H' H'') : SO K H H'' m dx a b d j p jv ys n kvs :=
  ⟨sx_call h.sx s, s _ _ h.ob, s _ _ h.hb, s _ _ h.hd, h.nd, h.fo.mono s (Nat.le_refl _)⟩
theorem SO.setM {H H' : Hp} {m dx a b d j p j' p' : Addr} {jv : V} {ys : List Ln} {n : Nat} {kvs : List (Key × V)} (h : SO K H H' m dx a b d j p jv ys n kvs) : SO K H (upd H' m (.ins (He.ga K "Matcher") dx (mf jv a b d j' p'))) m dx a b d j' p' jv ys n kvs := by
  refine ⟨sx_in h.sx (List.mem_singleton.mpr rfl), upd_same, ?_, ?_, h.nd, h.fo.upS h.ob (by intro l z; cases z)⟩
  · rw [upd_ne (ne_of h.hb h.ob (by intro z; cases z))]
    exact h.hb
  · rw [upd_ne (ne_of h.hd h.ob (by intro z; cases z))]
    exact h.hd
theorem SO.setD {H H' : Hp} {m dx a b d j p : Addr} {jv : V} {ys : List Ln} {n n' : Nat} {kvs kvs' : List (Key × V)} (h : SO K H H' m dx a b d j p jv ys n kvs) (f : FoundN H (upd H' d (.dK kvs')) ys n' kvs') : SO K H (upd H' d (.dK kvs')) m dx a b d j p jv ys n' kvs' := by
  refine ⟨sx_put h.sx h.nd, ?_, ?_, upd_same, h.nd, f⟩
  · rw [upd_ne (ne_of h.ob h.hd (by intro z; cases z))]
    exact h.ob
  · rw [upd_ne (ne_of h.hb h.hd (by intro z; cases z))]
    exact h.hb
theorem SO.setQ {H H' : Hp} {m dx a b d j p q : Addr} {jv : V} {ys : List Ln} {n n' : Nat} {kvs : List (Key × V)} {l l' : List V} (h : SO K H H' m dx a b d j p jv ys n kvs) (hq : H' q = some (.lst l)) (hq0 : H q = none) (f : FoundN H (upd H' q (.lst l')) ys n' kvs) : SO K H (upd H' q (.lst l')) m dx a b d j p jv ys n' kvs := by
  refine ⟨sx_put h.sx hq0, ?_, ?_, ?_, h.nd, f⟩
  · rw [upd_ne (ne_of h.ob hq (by intro z; cases z))]
    exact h.ob
  · rw [upd_ne (ne_of h.hb hq (by intro z; cases z))]
    exact h.hb
  · rw [upd_ne (ne_of h.hd hq (by intro z; cases z))]
    exact h.hd
theorem ok_setother (T : TX K mg) (cr : C8.Cal P w K mg base 1 "row_of" (spRow K) []) (cl : C8.Cal P w K mg base 1 "is_blank_line" spJunk []) (cs : C8.Cal P w K mg base 1 "is_blank_sign" spJunk []) : C8.Met P w K mg base 2 (He.ga K "Matcher") "set_other" (spSetOther K) [] := by
  refine metN T.f_MSetOther T.c_Matcher T.me_Matcher_set_other sc_setother (fun _ _ _ _ _ _ us hl => match us, hl with | [_, _], _ => rfl) (fun vs H Q E h => ?_) (fun cdv A outer s H vs Q E hr h => ?_)
  · obtain ⟨m, dx, a, b, d, j, p, jv, v, xs, ys, rfl, _⟩ := h
    rfl
  · obtain ⟨m, dx, a, b, d, j, p, jv, v, xs, ys, rfl, hm, ha, hJ, hS, sm, k⟩ := h
    have nd := sc_setother.nd
    obtain ⟨tLL, hLL⟩ := T.i_LEAST_LONG
    refine ⟨_, (pss_cons (ps_fld (pv 0) (C8.pe_c cr hr (by decide) rfl (pa_cons (pv 1) pa_nil)) rfl)
  (pss_cons (ps_fld (pv 0) pe_dnewK rfl)
  (C8.pss_cut (ps_for PassesOwn.never rfl (pi_enumT (by rfl) T.n_enumerate (pa_cons (pe_fld (pv 0) (by rfl)) pa_nil)) (pg_tup (by rfl) (pgs_cons (pg_name (i := 2) nd rfl (.inl rfl)) (pgs_cons (pg_name (i := 3) nd rfl (.inl rfl)) pgs_nil)))
  (pss_one (ps_expr (pe_bm PySem.F.plainAttrs_list PySem.F.slot_list_append PySem.F.type_list_append mt_append (pe_dsetd (pe_fld (pv 0) (by rfl)) (pv 3) (pe_lst pa_nil) ⟨rfl, rfl, rfl, rfl⟩) (pa_cons (pv 2) pa_nil)))))
  (C8.pss_cut (ps_fld (pv 0) (pe_lock (pe_lc (own := [("thing", 3)]) (g := gName 3) (tt := tAnd (tTest (tOp rNotN (tFld K (tVar 0) "is_junk") (tC .non))) (tB (tJunk K (tVar 0) (tVar 3)))) (by rfl) nd (pi_keys (pe_fld (pv 0) (by rfl))) (blkOk_by (own := [("thing", 3)]) (N := ["self", "sequence", "place", "thing", "most"]) (sc := defScope sMSetOther) (by decide +kernel)) (fun _ _ _ _ _ => (pg_name (i := 3) nd rfl (.inl rfl)))
        (fun _ _ _ _ _ => pts_one (PW.pt (pw_and (pt_cmpR op_notN (pe_fld (pv 0) (by rfl)) pe_non (nomark _)) (pw_and1 (pt_val (by exact (pe_junk T cl cs hr (by decide) (pv 0) (pv 3)))))))) (fun _ _ _ _ _ => pv 3))) rfl)
  (C8.pss_cut (ps_for PassesOwn.never rfl (pi_list (pe_fld (pv 0) (by rfl))) (pg_name (i := 3) nd rfl (.inl rfl))
  (pss_one (ps_expr (pe_dpop1 (pe_fld (pv 0) (by rfl)) (pv 3) ⟨rfl, rfl, rfl, rfl⟩))))
  (pss_cons (ps_fld (pv 0) (pe_lst pa_nil) rfl)
  (pss_cons (ps_if (PW.pt (pw_and (pt_truth (pe_fld (pv 0) (by rfl)) (by intro _; rfl)) (pw_and1 (pt_cmpR op_ge (pe_callB call_len (by rfl) T.n_len PySem.boot_len (pa_cons (pe_fld (pv 0) (by rfl)) pa_nil)) (C8.pe_gc (v := .int 200) (by rfl) ⟨_, hLL, ⟨tLL, rfl⟩⟩) (nomark _))))) pss_never pss_nil)
  (pss_one (ps_for PassesOwn.never rfl (pi_list (pe_fld (pv 0) (by rfl))) (pg_name (i := 3) nd rfl (.inl rfl))
  pss_never))))))))), ?_⟩
    refine ⟨_, rfl, ?_⟩
    dsimp only [tNil, tCons]
    refine row_use hS fun b1 hb1 => ⟨_, rfl, m, _, dx, _, rfl, same_new hb1 _ _ hm, T.c_Matcher, T.no_Matcher_second, mf_len, fun d1 hd1 => ⟨_, rfl, m, _, dx, _, rfl, same_new hd1 _ _ upd_same, T.c_Matcher, T.no_Matcher_found, (by rw [mf_put2]; exact mf_len), ?_⟩⟩
    rw [mf_put2, mf_put3]
    have mem_m : m ∈ [m] := List.mem_singleton.mpr rfl
    have mb1 : m ≠ b1 := ne_of_none hm hb1
    have md1 : m ≠ d1 := ne_of_none upd_same hd1
    have bd1 : b1 ≠ d1 := ne_of_none (by rw [upd_ne mb1.symm]; exact upd_same) hd1
    have nd1 : H d1 = none := NdefX.upd_none (NdefX.upd_none hd1)
    have am : a ∉ [m] := fun e => by
      rw [List.mem_singleton.mp e, hm] at ha
      cases ha
    have big : ∀ {n : Nat}, n ≤ 200 → n < sizeLine := fun {n} h => by rw [sizeLine_eq]; omega
    have lys := sm.len
    refine ⟨fun σ H' => ∃ (kvs : List (Key × V)) (u2 u3 : Option V), σ = [some (.ref m), some v, u2, u3, none] ∧ SO K H H' m dx a b1 d1 j p jv ys 1000 kvs ∧ (kvs.map (·.1)).Nodup ∧ kvs.length ≤ 60, ?_, ?_⟩
    · refine ⟨_, rfl, m, _, dx, _, _, rfl, upd_same, T.c_Matcher, T.no_Matcher_second, mf_second, b1, ys.map tv, rfl, SqT.of (by rw [upd_ne mb1.symm, upd_ne bd1, upd_ne mb1.symm]; exact upd_same), ?_⟩
      refine for_enumT (K := K) (a := b1) (xs := ys.map tv) (fun i σ H' => ∃ (kvs : List (Key × V)) (u2 u3 : Option V), σ = [some (.ref m), some v, u2, u3, none] ∧ SO K H H' m dx a b1 d1 j p jv ys i kvs ∧ (kvs.map (·.1)).Nodup ∧ kvs.length ≤ i)
        ⟨[], _, _, rfl, ⟨sx_in (sx_new (sx_in (sx_new sx_refl hb1) mem_m) hd1) mem_m, upd_same, ?_, ?_, nd1, fun p hp => nomatch hp⟩, List.nodup_nil, Nat.le_refl _⟩ ?_ ?_ ?_
      · rw [upd_ne mb1.symm, upd_ne bd1, upd_ne mb1.symm]
        exact upd_same
      · rw [upd_ne md1.symm]
        exact upd_same
      · rintro i σ H' _ ⟨kvs, u2, u3, _, S, _⟩
        exact SqT.of S.hb
      · rintro i x σ H' T0 hx ⟨kvs, u2, u3, rfl, S, hnd, hl⟩ hT0
        obtain ⟨l, hy, rfl⟩ := map_at' hx
        have hi : i < ys.length := (List.getElem?_eq_some_iff.mp hy).1
        have S5 := S.call (same_new (o := .tup [.int (i : Nat), tv l]) hT0)
        refine ⟨T0, _, rfl, SqT.of upd_same, rfl, _, _, rfl, _, _, rfl, rfl, ?_⟩
        refine ⟨_, rfl, m, _, dx, _, _, rfl, S5.ob, T.c_Matcher, T.no_Matcher_found, mf_found, d1, rfl, .inl ⟨kvs, Rd.of S5.hd⟩, _, rfl, Nat.zero_le _, fun z hz => ?_⟩
        have S6 := S5.call (same_new (o := .lst []) hz)
        refine ⟨kvs, kL l, S6.hd, rfl, big (by omega), fun v' hv => ?_, fun hn => ?_⟩
        · obtain ⟨q, js, rfl, hq, hjl, hq0, F⟩ := found_old S6.fo hv hy
          refine ⟨.inl ⟨rfl, _, SqL.of hq⟩, _, rfl, q, _, _, rfl, rfl, hq, by rw [List.length_map]; exact big (by omega), ?_⟩
          exact ⟨kvs, _, _, rfl, S6.setQ hq hq0 F, hnd, by omega⟩
        · have zd : z ≠ d1 := (ne_of_none S5.hd hz).symm
          have zm : z ≠ m := (ne_of_none S5.ob hz).symm
          have zb : z ≠ b1 := (ne_of_none S5.hb hz).symm
          have hz0 : H z = none := sx_free S5.sx (fun e => zm (List.mem_singleton.mp e)) hz
          have hz7 : upd (upd (upd H' T0 (.tup [.int (i : Nat), tv l])) z (.lst [])) d1 (.dK (putK kvs (kL l) (.ref z))) z = some (.lst []) := by
            rw [upd_ne zd]
            exact upd_same
          refine ⟨.inl ⟨rfl, [], SqL.of hz7⟩, _, rfl, z, [], _, rfl, rfl, hz7, by decide, ?_⟩
          have F := found_fresh (S6.fo.upS (o := .dK (putK kvs (kL l) (.ref z))) S6.hd (by intro l z; cases z)) hn hz7 hz0 hy
          refine ⟨putK kvs (kL l) (.ref z), _, _, rfl, ⟨sx_put (sx_put S6.sx S6.nd) hz0, ?_, ?_, ?_, nd1, F⟩, nodup_put hnd hn, Nat.le_trans (length_putK _ _ _) (by omega)⟩
          · rw [upd_ne zm.symm, upd_ne md1]
            exact S6.ob
          · rw [upd_ne zb.symm, upd_ne bd1]
            exact S6.hb
          · rw [upd_ne zd.symm]
            exact upd_same
      · rintro σ H' ⟨kvs, u2, u3, rfl, S, hnd, hl⟩
        rw [List.length_map] at hl S
        exact ⟨kvs, _, _, rfl, ⟨S.sx, S.ob, S.hb, S.hd, S.nd, S.fo.mono (Same.refl _) (by omega)⟩, hnd, by omega⟩
    rintro σ H' ⟨kvs, u2, u3, rfl, S, hnd, hkl⟩
    refine ⟨fun σ H'' => ∃ (kvs : List (Key × V)) (js : List Ln) (D : Addr) (u2 u3 : Option V), σ = [some (.ref m), some v, u2, u3, none] ∧ SO K H H'' m dx a b1 d1 D p jv ys 1000 kvs ∧ H'' D = some (.lst (js.map tv)) ∧ (js.map kL).Sublist (kvs.map (·.1)) ∧ (kvs.map (·.1)).Nodup, ?_, ?_⟩
    · refine ⟨d1, .dK kvs, S.hd, trivial, fun od => ?_⟩
      have obL : upd H' d1 (.frz od (.dK kvs)) m = some (.ins (He.ga K "Matcher") dx (mf jv a b1 d1 j p)) := by
        rw [upd_ne md1]
        exact S.ob
      have JL : JunkV K (upd H' d1 (.frz od (.dK kvs))) jv := (hJ.sx hm S.sx).upS S.hd (by intro l z; cases z) (by intro l z; cases z)
      refine ⟨_, rfl, m, _, dx, _, _, rfl, obL, T.c_Matcher, T.no_Matcher_found, mf_found, d1, od, rfl, .inl ⟨kvs, upd_same, fun D hD => ?_⟩⟩
      refine lc_gen (n := kvs.length) (fun i H2 => ∃ js : List Ln, Bld (upd H' d1 (.frz od (.dK kvs))) H2 D (js.map tv) ∧ (js.map kL).Sublist ((kvs.take i).map (·.1))) ⟨[], Bld.start (Same.refl _) hD, List.nil_sublist _⟩ ?_ ?_ ?_ ?_
      · rintro H2 ⟨js, B, _⟩
        exact ⟨B.same _ _ upd_same, Nat.le_refl _⟩
      · rintro i H2 hi ⟨js, B, _⟩
        exact ⟨B.same _ _ upd_same, hi⟩
      · rintro i x H2 H3 hi ⟨js, B, sub⟩ ⟨rfl, kk, vv, hk, rfl⟩
        obtain ⟨l, q, jn, e, _, _, _, hly, _, _⟩ := S.fo (kk, vv) (List.mem_of_getElem? hk)
        have ek : kk = kL l := congrArg Prod.fst e
        subst ek
        have sub1 : (js.map kL).Sublist ((kvs.take (i + 1)).map (·.1)) := by
          rw [take_at hk, List.map_append]
          exact sub.trans (List.sublist_append_left _ _)
        have jl : js.length ≤ 60 := by
          have q := sub.length_le
          rw [List.length_map, List.length_map, List.length_take] at q
          omega
        refine ⟨rfl, _, rfl, m, _, dx, _, _, rfl, B.same _ _ obL, T.c_Matcher, T.no_Matcher_is_junk, mf_junkf, rfl, _, rfl, iteNd (fun hne => ?_) fun _ => iteF ⟨js, B, sub1⟩⟩
        refine ⟨_, rfl, m, dx, _, jv, rfl, B.same _ _ obL, mf_junkf, hne, JL.mono B.same, _, rfl, l, rfl, (sm.el l hly).1, (sm.el l hly).2, Same.refl _, fun b H4 s4 => ⟨b, rfl, iteB (fun _ => ?_) fun _ => ⟨js, B.call s4, sub1⟩⟩⟩
        refine ⟨_, rfl, _, (B.call s4).at_, by rw [List.length_map]; exact big (by omega), js ++ [l], ?_, ?_⟩
        · rw [List.map_append]
          exact (B.call s4).push
        · rw [take_at hk, List.map_append, List.map_append]
          exact List.Sublist.append sub (List.Sublist.refl _)
      · rintro H2 ⟨js, B, sub⟩
        rw [List.take_length] at sub
        have obU : upd H2 d1 (.dK kvs) m = some (.ins (He.ga K "Matcher") dx (mf jv a b1 d1 j p)) := by
          rw [upd_ne md1]
          exact B.same _ _ obL
        have hf2 : H2 d1 = some (.frz od (.dK kvs)) := B.same _ _ upd_same
        refine ⟨hf2, _, rfl, m, _, dx, _, rfl, obU, T.c_Matcher, T.no_Matcher_junk, mf_len, ?_⟩
        rw [mf_put4]
        have SU : SO K H (upd H2 d1 (.dK kvs)) m dx a b1 d1 j p jv ys 1000 kvs := by
          refine ⟨sx_put (sx_call (sx_put S.sx S.nd) B.same) S.nd, obU, ?_, upd_same, S.nd, ((S.fo.upS S.hd (by intro l z; cases z)).mono B.same (Nat.le_refl _)).upS hf2 (by intro l z; cases z)⟩
          rw [upd_ne bd1]
          exact B.same _ _ (by rw [upd_ne bd1]; exact S.hb)
        refine ⟨kvs, js, D, _, _, rfl, SU.setM, ?_, sub, hnd⟩
        rw [upd_ne (ne_of (by rw [upd_ne (ne_of B.at_ hf2 (by intro z; cases z))]; exact B.at_) obU (by intro z; cases z)), upd_ne (ne_of B.at_ hf2 (by intro z; cases z))]
        exact B.at_
    rintro σ H' ⟨kvs, js, D, u2, u3, rfl, S, hDl, sub, hnd⟩
    have jnd : (js.map kL).Nodup := hnd.sublist sub
    refine ⟨fun σ H'' => ∃ (kvs : List (Key × V)) (u2 u3 : Option V), σ = [some (.ref m), some v, u2, u3, none] ∧ SO K H H'' m dx a b1 d1 D p jv ys 1000 kvs ∧ H'' D = some (.lst (js.map tv)), ?_, ?_⟩
    · refine ⟨_, rfl, m, _, dx, _, _, rfl, S.ob, T.c_Matcher, T.no_Matcher_junk, mf_junk, D, rfl, ⟨_, SqL.of hDl⟩, for_list (K := K) (a := D) (xs := js.map tv) (fun i σ H'' => ∃ (kvs : List (Key × V)) (u2 u3 : Option V), σ = [some (.ref m), some v, u2, u3, none] ∧ SO K H H'' m dx a b1 d1 D p jv ys 1000 kvs ∧ H'' D = some (.lst (js.map tv)) ∧ ∀ t ∈ js.drop i, ∃ v, valV kvs (kL t) = some v)
        ⟨kvs, _, _, rfl, S, hDl, fun t ht => val_key (sub.subset (List.mem_map.mpr ⟨t, ht, rfl⟩))⟩ ?_ ?_ ?_⟩
      · rintro i σ H'' _ ⟨_, _, _, _, _, h, _⟩
        exact SqL.of h
      · rintro i x σ H'' hx ⟨kvs, u2, u3, rfl, S, hDl, hv⟩
        obtain ⟨t, ht, rfl⟩ := map_at' hx
        rw [drop_at ht] at hv
        obtain ⟨v', hv'⟩ := hv t (List.mem_cons_self ..)
        refine ⟨_, rfl, m, _, dx, _, _, rfl, S.ob, T.c_Matcher, T.no_Matcher_found, mf_found, d1, rfl, .inl ⟨kvs, Rd.of S.hd⟩, _, rfl, kvs, kL t, v', S.hd, rfl, hv', ?_⟩
        refine ⟨dropK kvs (kL t), _, _, rfl, S.setD fun q hq => (S.fo.upS S.hd (by intro l z; cases z)) q (List.mem_filter.mp hq).1, ?_, fun t' ht' => ?_⟩
        · rw [upd_ne (ne_of hDl S.hd (by intro z; cases z))]
          exact hDl
        · have q : ((js.drop i).map kL).Nodup := jnd.sublist ((List.drop_sublist i js).map _)
          rw [drop_at ht, List.map_cons] at q
          have ne : kL t' ≠ kL t := fun e => (List.nodup_cons.mp q).1 (List.mem_map.mpr ⟨t', ht', e⟩)
          obtain ⟨v2, hv2⟩ := hv t' (List.mem_cons_of_mem _ ht')
          exact ⟨v2, by rw [val_drop ne]; exact hv2⟩
      · rintro σ H'' ⟨kvs, u2, u3, rfl, S, hDl, _⟩
        exact ⟨kvs, _, _, rfl, S, hDl⟩
    rintro σ H' ⟨kvs, u2, u3, rfl, S, hDl⟩
    refine ⟨Nat.zero_le _, fun pp hpp => ⟨_, rfl, m, _, dx, _, rfl, same_new hpp _ _ S.ob, T.c_Matcher, T.no_Matcher_popular, mf_len, ?_⟩⟩
    rw [mf_put5]
    have S' := (S.call (same_new (o := .lst []) hpp)).setM (j' := D) (p' := pp)
    have ob2 : upd H' pp (.lst []) m = some (.ins (He.ga K "Matcher") dx (mf jv a b1 d1 D p)) := same_new hpp _ _ S.ob
    have hp2 : upd (upd H' pp (.lst [])) m (.ins (He.ga K "Matcher") dx (mf jv a b1 d1 D pp)) pp = some (.lst []) := by
      rw [upd_ne (ne_of upd_same ob2 (by intro z; cases z))]
      exact upd_same
    have hD2 : upd (upd H' pp (.lst [])) m (.ins (He.ga K "Matcher") dx (mf jv a b1 d1 D pp)) D = some (.lst (js.map tv)) := by
      rw [upd_ne (ne_of (same_new hpp _ _ hDl) ob2 (by intro z; cases z))]
      exact same_new hpp _ _ hDl
    refine ⟨_, rfl, m, _, dx, _, _, rfl, S'.ob, T.c_Matcher, T.no_Matcher_auto, mf_auto, true, rfl, iteT ?_⟩
    refine ⟨_, rfl, m, _, dx, _, _, rfl, S'.ob, T.c_Matcher, T.no_Matcher_second, mf_second, _, ys.length, rfl, .inr ⟨_, SqT.of S'.hb, by simp⟩, _, _, rfl, rfl, _, rfl, iteD (fun c => absurd c (by omega)) fun _ => ?_⟩
    refine ⟨_, rfl, m, _, dx, _, _, rfl, S'.ob, T.c_Matcher, T.no_Matcher_popular, mf_pop, pp, rfl, ⟨[], SqL.of hp2⟩, for_list (K := K) (a := pp) (xs := []) (fun _ σ H'' => upd (upd H' pp (.lst [])) m (.ins (He.ga K "Matcher") dx (mf jv a b1 d1 D pp)) = H'') rfl ?_ ?_ ?_⟩
    · rintro i σ H'' _ rfl
      exact SqL.of hp2
    · intro i x σ H'' hx
      simp at hx
    · rintro σ H'' rfl
      exact k _ S'.sx ⟨dx, jv, a, b1, d1, D, pp, kvs, js, S'.ob, S'.sx a _ am ha, S'.hb, S'.hd, S'.fo.ok (Nat.le_refl _), hD2, hJ.sx hm S'.sx⟩
end
end TwK

set_option Elab.async false
set_option linter.all false
set_option maxRecDepth 100000
set_option maxHeartbeats 2000000
set_option pp.deepTerms false
set_option pp.deepTerms.threshold 6
namespace TwK
open PySem PySem.Spec PyProof.Rows L2 SX
theorem SeqV.sx {K : PySem.W.Frag} {H H' : Hp} {v : V} {xs : List Ln} {m C dx : Addr} {fs : List (Str × V)} (h : SeqV K H v xs) (hm : H m = some (.ins C dx fs)) (s : SameX [m] H H') : SeqV K H' v xs := by
  rcases h with ⟨a, e, q⟩ | q
  · refine .inl ⟨a, e, ?_⟩
    have ne : ∀ {u : HO}, H a = some u → u ≠ .ins C dx fs → a ∉ [m] := fun hy z e => by
      rw [List.mem_singleton.mp e, hm] at hy
      exact z (Option.some.inj hy).symm
    rcases q with (q | ⟨o, q⟩) | q
    · exact .inl (.inl (s _ _ (ne q (by intro z; cases z)) q))
    · exact .inl (.inr ⟨o, s _ _ (ne q (by intro z; cases z)) q⟩)
    · exact .inr q
  · exact .inr q
theorem lt1000 {n : Nat} (h : Nat.ble (n + 1) 1000 = true) : n < 1000 := Nat.le_of_ble_eq_true h
section
variable {P : Program} {w : World} {K : PySem.W.Frag} {mg : Str → Option Value} {base : Heap}
theorem sc_minit : FnScope ["self", "one", "other", "junk", "auto"] ["self", "one", "other", "junk", "auto"] (defScope sMInit) := ⟨rfl, rfl, rfl, by decide +kernel, rfl, by decide +kernel, by decide +kernel⟩
def spMInit (K : PySem.W.Frag) : Sp := fun vs H Q _ => ∃ (m dx : Addr) (one oth jv : V) (xs ys : List Ln), vs = [.ref m, one, oth, jv, .bl true] ∧ H m = some (.ins (He.ga K "Matcher") dx []) ∧ SeqV K H one xs ∧ SeqV K H oth ys ∧ Sm ys ∧ JunkV K H jv ∧
  ∀ H' : Hp, SameX [m] H H' → MAt K H' m xs ys → Q .non H'
theorem ok_minit {f : Addr} {fd : FuncData} (T : TX K mg) (F : FunD K "__init__" "Matcher.__init__" (defArgs sMInit) (defBody sMInit) (defScope sMInit) (dMInit.dvs K) (dMInit.kws K) f fd) (cr : C8.Cal P w K mg base 1 "row_of" (spRow K) []) (co : C8.Met P w K mg base 2 (He.ga K "Matcher") "set_other" (spSetOther K) []) :
    FnOk P w K mg base C8.CX0 3 f fd ["self", "one", "other", "junk", "auto"] (spMInit K) := by
  refine F.ok sc_minit (fun vs H Q E h => ?_) (fun cdv A outer s H vs Q E hr h => ?_)
  · obtain ⟨m, dx, one, oth, jv, xs, ys, rfl, _⟩ := h
    rfl
  · obtain ⟨m, dx, one, oth, jv, xs, ys, rfl, hm, hS1, hS2, sm, hJ, k⟩ := h
    refine ⟨_, PSs.nox (pss_cons (ps_fld (pv 0) (pv 3) rfl)
  (pss_cons (ps_fld (pv 0) (pv 4) rfl)
  (pss_cons (ps_fld (pv 0) (C8.pe_c cr hr (by decide) rfl (pa_cons (pv 1) pa_nil)) rfl)
  (pss_cons (ps_fld (pv 0) (pe_tup pa_nil) rfl)
  (pss_cons (ps_fld (pv 0) pe_dnewK rfl)
  (pss_cons (ps_fld (pv 0) (pe_lst pa_nil) rfl)
  (pss_cons (ps_fld (pv 0) (pe_lst pa_nil) rfl)
  (pss_one (ps_expr (C8.pe_mt co hr (by decide) (pv 0) (pa_cons (pv 2) pa_nil))))))))))), ?_⟩
    have mem_m : m ∈ [m] := List.mem_singleton.mpr rfl
    refine ⟨_, rfl, _, rfl, m, _, dx, _, rfl, hm, T.c_Matcher, T.no_Matcher_is_junk, lt1000 (by kernel_rfl), ?_⟩
    refine ⟨_, rfl, _, rfl, m, _, dx, _, rfl, upd_same, T.c_Matcher, T.no_Matcher_auto, lt1000 (by kernel_rfl), ?_⟩
    rw [upd_upd]
    refine ⟨_, rfl, ?_⟩
    dsimp only [tNil, tCons]
    have s1 : SameX [m] H (upd H m (.ins (He.ga K "Matcher") dx (putF "auto" (.bl true) (putF "is_junk" jv [])))) := sx_in sx_refl mem_m
    refine row_use (hS1.sx hm s1) fun a ha => ?_
    have s2 := sx_new (o := .tup (xs.map tv)) s1 ha
    have am : a ≠ m := (ne_of_none upd_same ha).symm
    refine ⟨_, rfl, m, _, dx, _, rfl, same_new ha _ _ upd_same, T.c_Matcher, T.no_Matcher_first, lt1000 (by kernel_rfl), ?_⟩
    refine ⟨Nat.zero_le _, fun b hb => ⟨_, rfl, m, _, dx, _, rfl, same_new hb _ _ upd_same, T.c_Matcher, T.no_Matcher_second, lt1000 (by kernel_rfl), ?_⟩⟩
    have s3 := sx_in (o := .ins (He.ga K "Matcher") dx (putF "second" (.ref b) (putF "first" (.ref a) (putF "auto" (.bl true) (putF "is_junk" jv []))))) (sx_new (o := .tup []) (sx_in (o := .ins (He.ga K "Matcher") dx (putF "first" (.ref a) (putF "auto" (.bl true) (putF "is_junk" jv [])))) s2 mem_m) hb) mem_m
    refine fun d hd => ⟨_, rfl, m, _, dx, _, rfl, same_new hd _ _ upd_same, T.c_Matcher, T.no_Matcher_found, lt1000 (by kernel_rfl), ?_⟩
    have s4 := sx_in (o := .ins (He.ga K "Matcher") dx (putF "found" (.ref d) (putF "second" (.ref b) (putF "first" (.ref a) (putF "auto" (.bl true) (putF "is_junk" jv [])))))) (sx_new (o := .dK []) s3 hd) mem_m
    refine ⟨Nat.zero_le _, fun j hj => ⟨_, rfl, m, _, dx, _, rfl, same_new hj _ _ upd_same, T.c_Matcher, T.no_Matcher_junk, lt1000 (by kernel_rfl), ?_⟩⟩
    have s5 := sx_in (o := .ins (He.ga K "Matcher") dx (putF "junk" (.ref j) (putF "found" (.ref d) (putF "second" (.ref b) (putF "first" (.ref a) (putF "auto" (.bl true) (putF "is_junk" jv []))))))) (sx_new (o := .lst []) s4 hj) mem_m
    refine ⟨Nat.zero_le _, fun p hp => ⟨_, rfl, m, _, dx, _, rfl, same_new hp _ _ upd_same, T.c_Matcher, T.no_Matcher_popular, lt1000 (by kernel_rfl), ?_⟩⟩
    have emf : putF "popular" (.ref p) (putF "junk" (.ref j) (putF "found" (.ref d) (putF "second" (.ref b) (putF "first" (.ref a) (putF "auto" (.bl true) (putF "is_junk" jv [])))))) = mf jv a b d j p := by kernel_rfl
    have s6 := sx_in (o := .ins (He.ga K "Matcher") dx (putF "popular" (.ref p) (putF "junk" (.ref j) (putF "found" (.ref d) (putF "second" (.ref b) (putF "first" (.ref a) (putF "auto" (.bl true) (putF "is_junk" jv [])))))))) (sx_new (o := .lst []) s5 hp) mem_m
    have ha6 : ∀ {H1 : Hp} {o : HO} {p : Addr} {u : HO}, H1 a = some (.tup (xs.map tv)) → H1 p = none → upd (upd H1 p o) m u a = some (.tup (xs.map tv)) := fun h1 h2 => by
      rw [upd_ne am]
      exact same_new h2 _ _ h1
    refine ⟨_, rfl, m, dx, _, rfl, upd_same, by rw [emf]; exact mf_no2, _, rfl, ?_⟩
    rw [emf] at s6 ⊢
    refine ⟨m, dx, a, b, d, j, p, jv, oth, xs, ys, rfl, upd_same, ha6 (ha6 (ha6 (ha6 (by rw [upd_ne am]; exact upd_same) hb) hd) hj) hp, hJ.sx hm s6, hS2.sx hm s6, sm, fun H' sx M => k H' (sx_trans s6 sx) M⟩
/-- Matcher(one, other, junk=x) -/
structure MakM (P : Program) (w : World) (K : PySem.W.Frag) (mg : Str → Option Value) (base : Heap) : Prop where
  ex : ∃ (f : Addr) (fd : FuncData) (ps : List Str) (g : List Value → List Value → List Value), Mk K (He.ga K "Matcher") f ∧ FnOk P w K mg base C8.CX0 3 f fd ps (spMInit K) ∧ mg "Matcher" = some (.ref (He.ga K "Matcher")) ∧ KBn K fd ps 3 ["junk"] g (fun vs zs => vs ++ (zs ++ [.bl true]))
theorem mak_m (T : TX K mg) (cr : C8.Cal P w K mg base 1 "row_of" (spRow K) []) (co : C8.Met P w K mg base 2 (He.ga K "Matcher") "set_other" (spSetOther K) []) : MakM P w K mg base := by
  obtain ⟨fd, F⟩ := T.f_MInit
  obtain ⟨its, mv, hb⟩ := F.kbinds (ps := ["self", "one", "other", "junk", "auto"]) 3 ["junk"] [("auto", .bl true)] (fun us its mv ws => us ++ (ws ++ mv)) (by intro z; cases z) (by intro z; cases z) (fun q hq => by
    rw [List.mem_singleton.mp hq]
    exact List.mem_cons_of_mem _ (List.mem_cons_self ..)) (fun r1 r2 r3 r4 => r1.append (r4.append r3)) (fun Ta D doc pm an cdv ct us its mv ws h1 h2 h3 h4 => match us, its, mv, ws, h1, h2, h3, h4 with | [_, _, _], [_, _], [_], [_], _, _, _, _ => ⟨_, rfl, _, _, _, _, _, _, rfl, rfl, rfl⟩)
  exact ⟨_, fd, _, _, T.mk_Matcher, ok_minit T F cr co, T.g_Matcher, hb⟩
theorem pe_mkm {X : Cx} {j : Nat} {p pos : Pos} {e : Expr} {es : List Expr} {kws : List Keyword} {t tk : TA} (c : MakM X.prog X.w X.K X.mg X.base) (hr : Room j X.A) (hk : 4 ≤ j) (hg : Gl X "Matcher") (ha : PA X (e :: es) t) (hkw : PK X kws tk)
    (hall : (backToKw pos (keywordEach kws X.env)).all (·.1.isSome) = true := by rfl) (hks : (backToKw pos (keywordEach kws X.env)).filterMap (·.1) = (["junk"] : List Str) := by rfl)
    (he : starEach (e :: es) X.env = (false, eval e X.env) :: starEach es X.env := by rfl)
    (hpl : ((backTo pos (starEach (e :: es) X.env)).any (·.1) || (backToKw pos (keywordEach kws X.env)).any (·.1.isNone)) = false := by rfl) :
    PE X (.Call (.Name "Matcher" p) (e :: es) kws pos) (tMakeN (He.ga X.K "Matcher") 2 1 (spMInit X.K) (fun vs zs => vs ++ (zs ++ [.bl true])) C8.E0 t tk) := by
  obtain ⟨f, fd, ps, g, M, F, hm, hb⟩ := c.ex
  exact pe_makeN M F (hr.mono hk) hg hm hb C8.pass0 ha hkw hall hks (by decide) he hpl
end
end TwK

set_option Elab.async false
set_option linter.all false
set_option maxRecDepth 100000
set_option maxHeartbeats 2000000
set_option pp.deepTerms false
set_option pp.deepTerms.threshold 6
namespace TwK
open PySem PySem.Spec PyProof.Rows L2 SX PySem.SeqAt
/-! ### a function held against a text: never equal -/
theorem slot_function_eq : Slot "function" (cmpInfo .Eq).2.1 "object.__eq__" :=
  .of (owner := "object") (n := "__eq__") (by rw [typeLookup_type, builtinLookup_eq_fast]; kernel_rfl) (by decide +kernel) (by decide +kernel) (by decide +kernel)
    (by first | exact .inl (by decide +kernel) | exact .inr (by decide +kernel)) (by rw [isSubtype_type]; kernel_rfl)
theorem sub_str_function : isSubtype (.type "str") (.type "function") = pure false := by rw [isSubtype_type]; kernel_rfl
theorem str_eq_declines_fn (b : Str) (u : Tok) (l : Addr) (c : Value) (fd : FuncData) (dd : Option Addr) (sl : Array (Option Value)) :
    Meets (Builtin.«str.__eq__» ⟨[.str b u, .ref l], []⟩) (fun _ R s => s.heap.get? l = some { cls := c, dict := dd, data := .func fd, slots := sl } ∧ R (.ok (.ret .notImplemented)) s) :=
  .of_wp fun prog w A R s h => by obtain ⟨hp, g, d, tk, os⟩ := s; obtain ⟨hl, h⟩ := h; wp_walk using wpAny_loadPart' hl, wpAny_load hl; exact ⟨_, rfl, h⟩
section
variable {M : Model} {prog : Program} {w : World} {A : Around} {E : Value → Shared → Prop} {s : Shared}
theorem isSame_str {x : Addr} {z : Str} {t : Tok} {R : Bool → Shared → Prop} (h : R false s) : wpAny M A (isSame (.ref x) (.str z t)) R E s := wpAny_of_eq (rfl : isSame (.ref x) (.str z t) = pure false) h
theorem obj_eq_str (x : Addr) (z : Str) (t : Tok) : Meets (Builtin.«object.__eq__» ⟨[.ref x, .str z t], []⟩) (fun _ R s => R (.ok (.ret .notImplemented)) s) :=
  .of_wp fun prog w A R s h => by
    unfold Builtin.«object.__eq__»
    repeat (first | with_reducible refine isSame_str ?_ | wp_step)
    exact ⟨_, rfl, h⟩
theorem eq_fn_str {f : Addr} {od : Option Addr} {fd : FuncData} {sl : Array (Option Value)} {z : Str} {t : Tok} {Q : Value → Shared → Prop} (ho : s.heap.get? f = some ⟨.type "function", od, .func fd, sl⟩) (hu : A.units < cLine) (h : Q (.bool false) s) :
    wpAny (model prog w) A (compareOp .Eq (.ref f) (.str z t)) Q E s := by
  show wpAny _ A (richCompare .Eq _ _) Q E s
  exact rc_eq_decline_or (k := false) ⟨_, ho, rfl⟩ (typeIs_str s z t) (by decide) sub_str_function slot_function_eq F.slot_str_eq_refl
    (fun _ hq => call_meets slot_function_eq ⟨_, ho, rfl⟩ F.entry_object_eq (F.args_object_eq_2 _ _) (obj_eq_str f z t) hq)
    (fun _ hq => call_meets F.slot_str_eq_refl (typeIs_str s z t) F.entry_str_eq (F.args_str_eq_2 _ _) (str_eq_declines_fn z t f _ fd od sl) ⟨ho, hq⟩)
    (fun _ hq => wpAny_of_eq (rfl : isSame (.ref f) (.str z t) = pure false) hq) (.inr hu) h
end
def rEqFn : R2 := fun x y H Q => ∃ f d bad ls z, x = .ref f ∧ y = .str z ∧ LamAt H f d bad ls ∧ Q (.bl false) H
theorem op_eqFn {X : Cx} (hu : X.A.units < cLine) : OpR X (compareOp .Eq) rEqFn := by
  intro pins s σ H x y v u Q I rx ry h
  obtain ⟨f, d, bad, ls, z, rfl, rfl, L, q⟩ := h
  cases rx
  obtain ⟨t, rfl⟩ := ry
  obtain ⟨⟨pm, ctv, ho⟩, _, _⟩ := I.hok f _ L.fn
  exact eq_fn_str ho hu ⟨.bl false, H, I, rfl, q⟩
end TwK

set_option Elab.async false
set_option linter.all false
set_option maxRecDepth 100000
set_option maxHeartbeats 2000000
set_option pp.deepTerms false
set_option pp.deepTerms.threshold 6
namespace TwK
open PySem PySem.Spec PyProof.Rows L2 SX
/-! ### pieces -/
abbrev ch (l : Ln) : List Ln := l.map fun c => [c]
inductive Pc where
  | eq (l : Ln)
  | one (l : Ln)
  | oth (l : Ln)
  | pair (l l2 : Ln) (cs : List Code)
def Pc.l : Pc → List Ln
  | .eq l => [l]
  | .one l => [l]
  | .oth _ => []
  | .pair l _ _ => [l]
def Pc.r : Pc → List Ln
  | .eq l => [l]
  | .one _ => []
  | .oth l => [l]
  | .pair _ l2 _ => [l2]
def Pc.Ok : Pc → Prop
  | .pair l l2 cs => Lead (ch l) (ch l2) cs 0 0 l.length l2.length ∧ cs.length ≤ 2000
  | _ => True
def PieceAt (Z : Hp) (v : V) : Pc → Prop
  | .eq l => ∃ a, v = .ref a ∧ Z a = some (.tup [.str Wd.eq.s, tv l])
  | .one l => ∃ a, v = .ref a ∧ Z a = some (.tup [.str "one", tv l])
  | .oth l => ∃ a, v = .ref a ∧ Z a = some (.tup [.str "other", tv l])
  | .pair l l2 cs => ∃ a q, v = .ref a ∧ Z a = some (.tup [.str "pair", tv l, tv l2, .ref q]) ∧ TupsAt Z Code.v q cs
theorem PieceAt.mono {Z Z' : Hp} {v : V} {p : Pc} (h : PieceAt Z v p) (s : Same Z Z') : PieceAt Z' v p := by
  cases p with
  | eq l => obtain ⟨a, e, h⟩ := h; exact ⟨a, e, s _ _ h⟩
  | one l => obtain ⟨a, e, h⟩ := h; exact ⟨a, e, s _ _ h⟩
  | oth l => obtain ⟨a, e, h⟩ := h; exact ⟨a, e, s _ _ h⟩
  | pair l l2 cs => obtain ⟨a, q, e, h, t⟩ := h; exact ⟨a, q, e, s _ _ h, t.mono s⟩
theorem pcs_mono {Z Z' : Hp} {vs : List V} {ps : List Pc} (h : Paired (PieceAt Z) vs ps) (s : Same Z Z') : Paired (PieceAt Z') vs ps := Paired.mono (fun _ _ q => q.mono s) h
def PcsAt (Z : Hp) (q : Addr) (ps : List Pc) : Prop := ∃ vs, Z q = some (.lst vs) ∧ Paired (PieceAt Z) vs ps
theorem PcsAt.mono {Z Z' : Hp} {q : Addr} {ps : List Pc} (h : PcsAt Z q ps) (s : Same Z Z') : PcsAt Z' q ps := by
  obtain ⟨vs, h1, h2⟩ := h
  exact ⟨vs, s _ _ h1, pcs_mono h2 s⟩
structure PcsOk (ps : List Pc) (xs ys : List Ln) : Prop where
  l : ps.flatMap Pc.l = xs
  r : ps.flatMap Pc.r = ys
  ok : ∀ p ∈ ps, p.Ok
theorem PcsOk.nil : PcsOk [] [] [] := ⟨rfl, rfl, fun p hp => nomatch hp⟩
theorem PcsOk.app {ps qs : List Pc} {a b c d : List Ln} (h : PcsOk ps a b) (g : PcsOk qs c d) : PcsOk (ps ++ qs) (a ++ c) (b ++ d) :=
  ⟨by rw [List.flatMap_append, h.l, g.l], by rw [List.flatMap_append, h.r, g.r], fun p hp => (List.mem_append.mp hp).elim (h.ok p) (g.ok p)⟩
theorem PcsOk.snoc {ps : List Pc} {p : Pc} {a b : List Ln} (h : PcsOk ps a b) (g : p.Ok) : PcsOk (ps ++ [p]) (a ++ p.l) (b ++ p.r) :=
  h.app ⟨by simp, by simp, fun q hq => by rw [List.mem_singleton.mp hq]; exact g⟩
theorem PcsOk.len : ∀ {ps : List Pc} {a b : List Ln}, PcsOk ps a b → ps.length ≤ a.length + b.length
  | [], a, b, h => Nat.zero_le _
  | p :: ps, a, b, h => by
    have q := PcsOk.len (ps := ps) ⟨rfl, rfl, fun x hx => h.ok x (List.mem_cons_of_mem _ hx)⟩
    have e1 := h.l
    have e2 := h.r
    rw [List.flatMap_cons] at e1 e2
    have e1 := congrArg List.length e1
    have e2 := congrArg List.length e2
    rw [List.length_append] at e1 e2
    have e3 : 1 ≤ p.l.length + p.r.length := by cases p <;> simp [Pc.l, Pc.r]
    rw [List.length_cons]
    omega
theorem ones_ok (xs : List Ln) : PcsOk (xs.map Pc.one) xs [] := ⟨by induction xs with
  | nil => rfl
  | cons x xs ih => rw [List.map_cons, List.flatMap_cons, ih]; rfl, by induction xs with
  | nil => rfl
  | cons x xs ih => rw [List.map_cons, List.flatMap_cons, ih]; rfl, fun p hp => by
    obtain ⟨l, _, rfl⟩ := List.mem_map.mp hp
    trivial⟩
theorem oths_ok (xs : List Ln) : PcsOk (xs.map Pc.oth) [] xs := ⟨by induction xs with
  | nil => rfl
  | cons x xs ih => rw [List.map_cons, List.flatMap_cons, ih]; rfl, by induction xs with
  | nil => rfl
  | cons x xs ih => rw [List.map_cons, List.flatMap_cons, ih]; rfl, fun p hp => by
    obtain ⟨l, _, rfl⟩ := List.mem_map.mp hp
    trivial⟩
theorem eqs_ok (xs : List Ln) : PcsOk (xs.map Pc.eq) xs xs := ⟨by induction xs with
  | nil => rfl
  | cons x xs ih => rw [List.map_cons, List.flatMap_cons, ih]; rfl, by induction xs with
  | nil => rfl
  | cons x xs ih => rw [List.map_cons, List.flatMap_cons, ih]; rfl, fun p hp => by
    obtain ⟨l, _, rfl⟩ := List.mem_map.mp hp
    trivial⟩
/-- a piece appended to a list that grows -/
theorem Bld.pushP {H0 H : Hp} {f p : Addr} {gs : List V} {ps : List Pc} {v : V} {c : Pc} {o : HO} (b : Bld H0 H f gs) (hp : H p = none) (hP : Paired (PieceAt (Own H0 [f] H)) gs ps) (hc : PieceAt (Own H0 [f] (upd H p o)) v c) :
    Bld H0 (upd (upd H p o) f (.lst (gs ++ [v]))) f (gs ++ [v]) ∧ Paired (PieceAt (Own H0 [f] (upd (upd H p o) f (.lst (gs ++ [v]))))) (gs ++ [v]) (ps ++ [c]) := by
  refine ⟨(b.new hp).push, ?_⟩
  rw [(b.new hp).push_own]
  exact Paired.snoc (pcs_mono hP (own_new hp)) hc
theorem cut_mid {xs : List Ln} {i j : Nat} (h : i ≤ j) (hj : j ≤ xs.length) : cutV (xs.map tv) (some (i : Int)) (some (j : Int)) = ((xs.drop i).take (j - i)).map tv := by
  unfold cutV
  rw [HT.sIx_nat, HT.sIx_nat, List.length_map, Nat.min_eq_left hj, Nat.min_eq_left (Nat.le_trans h hj), ← List.map_drop, ← List.map_take]
theorem cut_from {xs : List Ln} {i : Nat} (h : i ≤ xs.length) : cutV (xs.map tv) (some (i : Int)) none = (xs.drop i).map tv := by
  unfold cutV
  rw [HT.sIx_nat, HT.sIx_none, List.length_map, Nat.min_eq_left h, ← List.map_drop, List.take_of_length_le (by simp)]
theorem take_mid {α : Type} (xs : List α) {i j : Nat} (h : i ≤ j) : xs.take i ++ (xs.drop i).take (j - i) = xs.take j := by
  rw [← List.take_add, show i + (j - i) = j by omega]
section
variable {P : Program} {w : World} {K : PySem.W.Frag} {mg : Str → Option Value} {base : Heap}
theorem sc_told : FnScope ["ones", "others", "first", "second", "line"] ["ones", "others"] (defScope sToldApart) := ⟨rfl, rfl, rfl, by decide +kernel, rfl, by decide +kernel, by decide +kernel⟩
def spTold (K : PySem.W.Frag) : Sp := fun vs H Q _ => ∃ (a b : Addr) (xs ys : List Ln), vs = [.ref a, .ref b] ∧ SqL K H a (xs.map tv) ∧ SqL K H b (ys.map tv) ∧ xs.length ≤ 100 ∧ ys.length ≤ 100 ∧
  ∀ (H' : Hp) (q : Addr) (ps : List Pc), Same H H' → PcsAt (New H H') q ps → PcsOk ps xs ys → Q (.ref q) H'
theorem ok_told (T : TX K mg) : C8.Cal P w K mg base 1 "told_apart" (spTold K) [] := by
  refine calN T.f_ToldApart T.g_told_apart sc_told (fun _ _ _ _ _ _ us hl => match us, hl with | [_, _], _ => rfl) (fun vs H Q E h => ?_) (fun cdv A outer s H vs Q E hr h => ?_)
  · obtain ⟨a, b, xs, ys, rfl, _⟩ := h
    rfl
  · obtain ⟨a, b, xs, ys, rfl, ha, hb, hX, hY, k⟩ := h
    have nd := sc_told.nd
    refine ⟨_, (pss_cons (ps_par (i := 2) (j := 3) (by rfl) nd rfl rfl (by decide) rfl rfl (pa_cons (pe_lc (own := [("line", 4)]) (g := gName 4) (by rfl) nd (pi_list (pv 0)) (blkOk_by (own := [("line", 4)]) (N := ["ones", "others", "first", "second", "line"]) (sc := defScope sToldApart) (by decide +kernel)) (fun _ _ _ _ _ => (pg_name (i := 4) nd rfl (.inl rfl))) (fun _ _ _ _ _ => pts_nil) (fun _ _ _ _ _ => (pe_tup (pa_cons pe_str (pa_cons (pv 4) pa_nil))))) (pa_cons (pe_lc (own := [("line", 4)]) (g := gName 4) (by rfl) nd (pi_list (pv 1)) (blkOk_by (own := [("line", 4)]) (N := ["ones", "others", "first", "second", "line"]) (sc := defScope sToldApart) (by decide +kernel)) (fun _ _ _ _ _ => (pg_name (i := 4) nd rfl (.inl rfl))) (fun _ _ _ _ _ => pts_nil) (fun _ _ _ _ _ => (pe_tup (pa_cons pe_str (pa_cons (pv 4) pa_nil))))) pa_nil)) (by rfl))
  (pss_one (ps_ret (pe_ifExp (pt_cmpR op_lt (pe_callB call_len (by rfl) T.n_len PySem.boot_len (pa_cons (pv 1) pa_nil)) (pe_callB call_len (by rfl) T.n_len PySem.boot_len (pa_cons (pv 0) pa_nil)) (nomark _)) (pe_op op_cat (pv 3) (pv 2)) (pe_op op_cat (pv 2) (pv 3)))))), ?_⟩
    have line : ∀ {n : Nat}, n ≤ 200 → n ≤ sizeLine := fun {n} h => by rw [sizeLine_eq]; omega
    have lt : ∀ {n : Nat}, n ≤ 200 → n < sizeLine := fun {n} h => by rw [sizeLine_eq]; omega
    refine ⟨_, rfl, a, rfl, ⟨_, ha⟩, fun D1 hD1 => lc_list (K := K) (a := a) (xs := xs.map tv) (fun i H2 => ∃ gs, Bld H H2 D1 gs ∧ Paired (PieceAt (Own H [D1] H2)) gs ((xs.take i).map Pc.one)) ⟨[], Bld.start (Same.refl _) hD1, .nil⟩ (fun i H2 _ ⟨_, B, _⟩ => B.same.seq ha) ?_ ?_⟩
    · rintro i x H2 hx ⟨gs, B, hP⟩
      obtain ⟨l, hl, rfl⟩ := map_at' hx
      have hi := (List.getElem?_eq_some_iff.mp hl).1
      have gl := Paired.length hP
      rw [List.length_map, List.length_take] at gl
      refine ⟨rfl, _, rfl, sl2, fun p hp => ⟨gs, (B.new hp).at_, lt (by omega), ?_⟩⟩
      obtain ⟨B2, hP2⟩ := B.pushP (c := .one l) hp hP ⟨p, rfl, B.at_new hp⟩
      rw [take_at hl, List.map_append]
      exact ⟨_, B2, hP2⟩
    rintro H1 ⟨gs, B1, hP1⟩
    rw [List.length_map, List.take_length] at hP1
    refine ⟨_, rfl, b, rfl, ⟨_, B1.same.seq hb⟩, fun D2 hD2 => lc_list (K := K) (a := b) (xs := ys.map tv) (fun i H2 => ∃ gs, Bld H1 H2 D2 gs ∧ Paired (PieceAt (Own H1 [D2] H2)) gs ((ys.take i).map Pc.oth)) ⟨[], Bld.start (Same.refl _) hD2, .nil⟩ (fun i H2 _ ⟨_, B, _⟩ => (B1.same.trans B.same).seq hb) ?_ ?_⟩
    · rintro i x H2 hx ⟨gs, B, hP⟩
      obtain ⟨l, hl, rfl⟩ := map_at' hx
      have hi := (List.getElem?_eq_some_iff.mp hl).1
      have gl := Paired.length hP
      rw [List.length_map, List.length_take] at gl
      refine ⟨rfl, _, rfl, sl2, fun p hp => ⟨gs, (B.new hp).at_, lt (by omega), ?_⟩⟩
      obtain ⟨B2, hP2⟩ := B.pushP (c := .oth l) hp hP ⟨p, rfl, B.at_new hp⟩
      rw [take_at hl, List.map_append]
      exact ⟨_, B2, hP2⟩
    rintro H2 ⟨gs2, B2, hP2⟩
    rw [List.length_map, List.take_length] at hP2
    have hD : H2 D1 = some (.lst gs) := B2.same _ _ B1.at_
    have s2 := B1.same.trans B2.same
    have g1 := Paired.length hP1
    have g2 := Paired.length hP2
    rw [List.length_map] at g1 g2
    have p1 : ∀ {q : Addr} {o : HO}, H2 q = none → Paired (PieceAt (New H (upd H2 q o))) gs (xs.map Pc.one) := fun hq => pcs_mono hP1 (own_one.trans (own_call (B2.same.trans (same_new hq))))
    have p2 : ∀ {q : Addr} {o : HO}, H2 q = none → Paired (PieceAt (New H (upd H2 q o))) gs2 (ys.map Pc.oth) := fun hq => pcs_mono hP2 ((own_one.trans (own_call (same_new hq))).trans (new_trans B1.same))
    refine ⟨_, _, rfl, ?_⟩
    refine ⟨_, rfl, _, ys.length, rfl, .inl ⟨_, s2.seq hb, by simp⟩, _, rfl, _, xs.length, rfl, .inl ⟨_, s2.seq ha, by simp⟩, _, _, rfl, rfl, _, rfl, iteB (fun _ => ?_) fun _ => ?_⟩
    · refine ⟨_, rfl, _, rfl, D2, D1, _, _, rfl, rfl, B2.at_, hD, line (by omega), fun q hq => k _ q (ys.map Pc.oth ++ xs.map Pc.one) (s2.trans (same_new hq)) ⟨_, own_iff.mpr ⟨by simp, s2.free hq, upd_same⟩, Paired.app (p2 hq) (p1 hq)⟩ ?_⟩
      have z := (oths_ok ys).app (ones_ok xs)
      rwa [List.nil_append, List.append_nil] at z
    · refine ⟨_, rfl, _, rfl, D1, D2, _, _, rfl, rfl, hD, B2.at_, line (by omega), fun q hq => k _ q (xs.map Pc.one ++ ys.map Pc.oth) (s2.trans (same_new hq)) ⟨_, own_iff.mpr ⟨by simp, s2.free hq, upd_same⟩, Paired.app (p1 hq) (p2 hq)⟩ ?_⟩
      have z := (ones_ok xs).app (oths_ok ys)
      rwa [List.nil_append, List.append_nil] at z
end
end TwK

set_option Elab.async false
set_option linter.all false
set_option maxRecDepth 100000
set_option maxHeartbeats 2000000
set_option pp.deepTerms false
set_option pp.deepTerms.threshold 6
namespace TwK
open PySem PySem.Spec PyProof.Rows L2 SX
def df (a b : V) : List (Str × V) := [("line_junk", a), ("sign_junk", b)]
section
variable {a b : V}
theorem df_l : (df a b).lookup ("line_junk" : Str) = some a := by kernel_rfl
theorem df_s : (df a b).lookup ("sign_junk" : Str) = some b := by kernel_rfl
theorem df_no1 : (df a b).lookup ("pieces" : Str) = none := by kernel_rfl
theorem df_no2 : (df a b).lookup ("replaced" : Str) = none := by kernel_rfl
theorem df_no3 : (df a b).lookup ("partner" : Str) = none := by kernel_rfl
theorem df_no4 : (df a b).lookup ("paired" : Str) = none := by kernel_rfl
end
structure DAt' (K : PySem.W.Frag) (H : Hp) (d dx : Addr) (lj sj : V) : Prop where
  ob : H d = some (.ins (He.ga K "Differ") dx (df lj sj))
  l : JunkV K H lj
  s : JunkV K H sj
def DAt (K : PySem.W.Frag) (H : Hp) (d : Addr) : Prop := ∃ dx lj sj, DAt' K H d dx lj sj
theorem DAt.mono {K : PySem.W.Frag} {H H' : Hp} {d : Addr} (h : DAt K H d) (s : Same H H') : DAt K H' d := by
  obtain ⟨dx, lj, sj, h⟩ := h
  exact ⟨dx, lj, sj, s _ _ h.ob, h.l.mono s, h.s.mono s⟩
/-- what is given as junk: 'blanks', None, a lambda -/
def JArg (H : Hp) (v : V) : Prop := v = .str "blanks" ∨ v = .non ∨ ∃ f d bad ls, v = .ref f ∧ LamAt H f d bad ls
structure LnOk (l : Ln) : Prop where
  ne : l ≠ []
  len : l.length ≤ 60
theorem sm_ch {l : Ln} (h : l.length ≤ 60) : Sm (ch l) := ⟨by rw [List.length_map]; exact h, fun x hx => by
  obtain ⟨c, _, rfl⟩ := List.mem_map.mp hx
  exact ⟨by simp, by simp⟩⟩
theorem seq_ch {K : PySem.W.Frag} {H : Hp} {l : Ln} (h : l.length ≤ 1000) : SeqV K H (tv l) (ch l) := .inr ⟨l, rfl, h, rfl⟩
theorem SqT.mono' {K : PySem.W.Frag} {H H' : Hp} {a : Addr} {xs : List V} (h : SqT K H a xs) (s : Same H H') : SqT K H' a xs := by
  rcases h with (q | ⟨o, q⟩) | q
  · exact .inl (.inl (s _ _ q))
  · exact .inl (.inr ⟨o, s _ _ q⟩)
  · exact .inr q
theorem SqT.sx {K : PySem.W.Frag} {H H' : Hp} {a m C dx : Addr} {fs : List (Str × V)} {xs : List V} (h : SqT K H a xs) (hm : H m = some (.ins C dx fs)) (s : SameX [m] H H') : SqT K H' a xs := by
  have ne : ∀ {u : HO}, H a = some u → u ≠ .ins C dx fs → a ∉ [m] := fun hy z e => by
    rw [List.mem_singleton.mp e, hm] at hy
    exact z (Option.some.inj hy).symm
  rcases h with (q | ⟨o, q⟩) | q
  · exact .inl (.inl (s _ _ (ne q (by intro z; cases z)) q))
  · exact .inl (.inr ⟨o, s _ _ (ne q (by intro z; cases z)) q⟩)
  · exact .inr q
/-- a new instance and its __init__: all that was there is kept -/
theorem made_same {H H' : Hp} {x dx C : Addr} (nx : H x = none) (nd : H dx = none) (s : SameX [x] (upd (upd H dx (.own x)) x (.ins C dx [])) H') : Same H H' := fun b o e => by
  refine s b o (fun z => ?_) ?_
  · rw [List.mem_singleton.mp z, nx] at e
    cases e
  · rw [upd_ne (ne_of_none e nx), upd_ne (ne_of_none e nd)]
    exact e
theorem made_same0 {H : Hp} {x dx C : Addr} (nx : H x = none) (nd : H dx = none) : Same H (upd (upd H dx (.own x)) x (.ins C dx [])) := fun b o e => by
  rw [upd_ne (ne_of_none e nx), upd_ne (ne_of_none e nd)]
  exact e
section
variable {P : Program} {w : World} {K : PySem.W.Frag} {mg : Str → Option Value} {base : Heap}
theorem sc_dinit : FnScope ["self", "line_junk", "sign_junk"] ["self", "line_junk", "sign_junk"] (defScope sDInit) := ⟨rfl, rfl, rfl, by decide +kernel, rfl, by decide +kernel, by decide +kernel⟩
def spDInit (K : PySem.W.Frag) : Sp := fun vs H Q _ => ∃ (d dx : Addr) (a b : V), vs = [.ref d, a, b] ∧ H d = some (.ins (He.ga K "Differ") dx []) ∧ JArg H a ∧ JArg H b ∧ ∀ H' : Hp, SameX [d] H H' → DAt K H' d → Q .non H'
theorem ok_dinit {f : Addr} {fd : FuncData} (T : TX K mg) (F : FunD K "__init__" "Differ.__init__" (defArgs sDInit) (defBody sDInit) (defScope sDInit) (dDInit.dvs K) (dDInit.kws K) f fd) : FnOk P w K mg base C8.CX0 1 f fd ["self", "line_junk", "sign_junk"] (spDInit K) := by
  refine F.ok sc_dinit (fun vs H Q E h => ?_) (fun cdv A outer s H vs Q E hr h => ?_)
  · obtain ⟨d, dx, a, b, rfl, _⟩ := h
    rfl
  · obtain ⟨d, dx, a, b, rfl, hd, hA, hB, k⟩ := h
    refine ⟨_, PSs.nox (C8.pss_cut (ps_fld (pv 0) (pe_ifExp (pt_cmpR (op_eq.or (op_eqFn hr.units0)) (pv 1) pe_str (nomark _)) (C8.pe_gc (v := .ref (He.ga K "is_blank_line")) (by rfl) ⟨_, T.g_is_blank_line, rfl⟩) (pv 1)) rfl)
  (pss_one (ps_fld (pv 0) (pe_ifExp (pt_cmpR (op_eq.or (op_eqFn hr.units0)) (pv 2) pe_str (nomark _)) (C8.pe_gc (v := .ref (He.ga K "is_blank_sign")) (by rfl) ⟨_, T.g_is_blank_sign, rfl⟩) (pv 2)) rfl))), ?_⟩
    have mem_d : d ∈ [d] := List.mem_singleton.mpr rfl
    refine ⟨fun σ H' => ∃ v1, σ = [some (.ref d), some a, some b] ∧ JunkV K H v1 ∧ upd H d (.ins (He.ga K "Differ") dx (putF "line_junk" v1 [])) = H', ?_, ?_⟩
    · rcases hA with e | e | ⟨f, dd, bad, ls, e, L⟩
      · subst e
        exact ⟨_, rfl, .inl ⟨rfl, _, rfl, iteD (fun _ => ⟨_, rfl, d, _, dx, _, rfl, hd, T.c_Differ, T.no_Differ_line_junk, lt1000 (by kernel_rfl), _, rfl, .inr (.inl rfl), rfl⟩) fun z => absurd rfl z⟩⟩
      · subst e
        exact ⟨_, rfl, .inl ⟨rfl, _, rfl, iteD (fun z => absurd z (by intro z; cases z)) fun _ => ⟨_, rfl, _, rfl, d, _, dx, _, rfl, hd, T.c_Differ, T.no_Differ_line_junk, lt1000 (by kernel_rfl), _, rfl, .inl rfl, rfl⟩⟩⟩
      · subst e
        exact ⟨_, rfl, .inr ⟨f, dd, bad, ls, _, rfl, rfl, L, _, rfl, iteF ⟨_, rfl, _, rfl, d, _, dx, _, rfl, hd, T.c_Differ, T.no_Differ_line_junk, lt1000 (by kernel_rfl), _, rfl, .inr (.inr (.inr ⟨f, dd, bad, ls, rfl, L⟩)), rfl⟩⟩⟩
    rintro σ H' ⟨v1, rfl, j1, rfl⟩
    have fin : ∀ v2, JunkV K H v2 → Q .non (upd (upd H d (.ins (He.ga K "Differ") dx (putF "line_junk" v1 []))) d (.ins (He.ga K "Differ") dx (putF "sign_junk" v2 (putF "line_junk" v1 [])))) := fun v2 j2 => by
      have s2 : SameX [d] H (upd (upd H d (.ins (He.ga K "Differ") dx (putF "line_junk" v1 []))) d (.ins (He.ga K "Differ") dx (putF "sign_junk" v2 (putF "line_junk" v1 [])))) := sx_in (sx_in sx_refl mem_d) mem_d
      refine k _ s2 ⟨dx, v1, v2, ?_, j1.sx hd s2, j2.sx hd s2⟩
      have e : putF "sign_junk" v2 (putF "line_junk" v1 []) = df v1 v2 := by kernel_rfl
      rw [upd_same, e]
    rcases hB with e | e | ⟨f, dd, bad, ls, e, L⟩
    · subst e
      exact ⟨_, rfl, .inl ⟨rfl, _, rfl, iteD (fun _ => ⟨_, rfl, d, _, dx, _, rfl, upd_same, T.c_Differ, T.no_Differ_sign_junk, lt1000 (by kernel_rfl), fin _ (.inr (.inr (.inl rfl)))⟩) fun z => absurd rfl z⟩⟩
    · subst e
      exact ⟨_, rfl, .inl ⟨rfl, _, rfl, iteD (fun z => absurd z (by intro z; cases z)) fun _ => ⟨_, rfl, _, rfl, d, _, dx, _, rfl, upd_same, T.c_Differ, T.no_Differ_sign_junk, lt1000 (by kernel_rfl), fin _ (.inl rfl)⟩⟩⟩
    · subst e
      exact ⟨_, rfl, .inr ⟨f, dd, bad, ls, _, rfl, rfl, lamAt_upd L hd (by intro l z; cases z) (by intro l z; cases z), _, rfl, iteF ⟨_, rfl, _, rfl, d, _, dx, _, rfl, upd_same, T.c_Differ, T.no_Differ_sign_junk, lt1000 (by kernel_rfl), fin _ (.inr (.inr (.inr ⟨f, dd, bad, ls, rfl, L⟩)))⟩⟩⟩
theorem sc_paired : FnScope ["self", "line", "line2"] ["self", "line", "line2"] (defScope sDPaired) := ⟨rfl, rfl, rfl, by decide +kernel, rfl, by decide +kernel, by decide +kernel⟩
def spPaired (K : PySem.W.Frag) : Sp := fun vs H Q _ => ∃ (d : Addr) (l l2 : Ln), vs = [.ref d, tv l, tv l2] ∧ DAt K H d ∧ l.length ≤ 60 ∧ l2.length ≤ 60 ∧
  ∀ (H' : Hp) (v : V) (p : Pc), Same H H' → PieceAt (New H H') v p → p.l = [l] → p.r = [l2] → p.Ok → Q v H'
theorem ok_paired (T : TX K mg) (mm : MakM P w K mg base) (cc : C8.Met P w K mg base 5 (He.ga K "Matcher") "codes" (spMCodes K) []) : C8.Met P w K mg base 6 (He.ga K "Differ") "paired" (spPaired K) [] := by
  refine metN T.f_DPaired T.c_Differ T.me_Differ_paired sc_paired (fun _ _ _ _ _ _ us hl => match us, hl with | [_, _, _], _ => rfl) (fun vs H Q E h => ?_) (fun cdv A outer s H vs Q E hr h => ?_)
  · obtain ⟨d, l, l2, rfl, _⟩ := h
    rfl
  · obtain ⟨d, l, l2, rfl, D, h1, h2, k⟩ := h
    obtain ⟨dx, lj, sj, D⟩ := D
    refine ⟨_, (pss_cons (ps_if (pt_cmpR op_eq (pv 1) (pv 2) (nomark _)) (pss_one (ps_ret (pe_tup (pa_cons pe_str (pa_cons (pv 1) pa_nil))))) pss_nil)
  (pss_one (ps_ret (pe_tup (pa_cons pe_str (pa_cons (pv 1) (pa_cons (pv 2) (pa_cons (C8.pe_mt0 cc hr (by decide) (pe_mkm mm hr (by decide) (by rfl) (pa_cons (pv 1) (pa_cons (pv 2) pa_nil)) (pk_cons (pe_fld (pv 0) (by rfl)) pk_nil))) pa_nil)))))))), ?_⟩
    refine ⟨_, rfl, _, rfl, rfl, _, rfl, iteD (fun e => ?_) fun _ => ?_⟩
    · have el : l = l2 := by
        have q : S l = S l2 := by injection e
        exact S_inj q
      subst el
      exact ⟨_, rfl, sl2, fun p hp => k _ (.ref p) (.eq l) (same_new hp) ⟨p, rfl, own_at hp (by simp)⟩ rfl rfl trivial⟩
    · refine ⟨_, rfl, _, rfl, _, rfl, _, rfl, _, rfl, d, _, dx, _, _, rfl, D.ob, T.c_Differ, T.no_Differ_sign_junk, df_s, rfl, rfl, fun m mx nm nmx nmm => ?_⟩
      have s0 : Same H (upd (upd H mx (.own m)) m (.ins (He.ga K "Matcher") mx [])) := made_same0 nm nmx
      refine ⟨m, mx, tv l, tv l2, sj, ch l, ch l2, rfl, upd_same, seq_ch (by omega), seq_ch (by omega), sm_ch h2, D.s.mono s0, fun H1 sx M => ⟨rfl, ?_⟩⟩
      have s1 := made_same nm nmx sx
      obtain ⟨_, _, _, _, _, _, _, _, _, M'⟩ := id M
      refine ⟨m, _, _, rfl, M'.ob, mf_no8, m, ch l, ch l2, rfl, M, by rw [List.length_map]; exact h1, by rw [List.length_map]; exact h2, fun H2 q cs s2 hC hL hcl => ⟨sl4, fun p hp => ?_⟩⟩
      rw [List.length_map, List.length_map] at hL
      exact k _ (.ref p) (.pair l l2 cs) ((s1.trans s2).trans (same_new hp)) ⟨p, q, rfl, own_at ((s1.trans s2).free hp) (by simp), (hC.mono (new_trans s1)).mono (own_call (same_new hp))⟩ rfl rfl ⟨hL, hcl⟩
end
end TwK

set_option Elab.async false
set_option linter.all false
set_option maxRecDepth 100000
set_option maxHeartbeats 2000000
set_option pp.deepTerms false
set_option pp.deepTerms.threshold 6
namespace TwK
open PySem PySem.Spec PyProof.Rows L2 SX
theorem small_mul {a b : Int} (h : Small a) : CMul a b := .inl ⟨by have := h.1; omega, by have := h.2; omega⟩
section
variable {P : Program} {w : World} {K : PySem.W.Frag} {mg : Str → Option Value} {base : Heap}
theorem sc_partner : FnScope ["self", "ones", "line2", "used", "place2", "best", "found", "matcher", "place", "part", "whole", "more"] ["self", "ones", "line2", "used", "place2"] (defScope sDPartner) := ⟨rfl, rfl, rfl, by decide +kernel, rfl, by decide +kernel, by decide +kernel⟩
def spPartner (K : PySem.W.Frag) : Sp := fun vs H Q _ => ∃ (d a : Addr) (xs : List Ln) (l2 : Ln) (used p2 : Nat), vs = [.ref d, .ref a, tv l2, iv used, iv p2] ∧ DAt K H d ∧ SqL K H a (xs.map tv) ∧ (∀ l ∈ xs, l.length ≤ 60) ∧ l2.length ≤ 60 ∧ xs.length ≤ 1000 ∧ used ≤ 1000 ∧ p2 ≤ 1000 ∧
  ∀ (H' : Hp) (v : V), Same H H' → (v = .non ∨ ∃ pl : Nat, v = iv pl ∧ used ≤ pl ∧ pl < xs.length) → Q v H'
theorem ok_partner (T : TX K mg) (mm : MakM P w K mg base) (cso : C8.Met P w K mg base 2 (He.ga K "Matcher") "set_one" (spSetOne K) []) (cr : C8.Met P w K mg base 5 (He.ga K "Matcher") "ratio" (spRatio K) []) : C8.Met P w K mg base 6 (He.ga K "Differ") "partner" (spPartner K) [] := by
  refine metN T.f_DPartner T.c_Differ T.me_Differ_partner sc_partner (fun _ _ _ _ _ _ us hl => match us, hl with | [_, _, _, _, _], _ => rfl) (fun vs H Q E h => ?_) (fun cdv A outer s H vs Q E hr h => ?_)
  · obtain ⟨d, a, xs, l2, used, p2, rfl, _⟩ := h
    rfl
  · obtain ⟨d, a, xs, l2, used, p2, rfl, D, ha, hX, hl2, lX, lu, lp, k⟩ := h
    obtain ⟨dx, lj, sj, D⟩ := D
    have nd := sc_partner.nd
    obtain ⟨tW, hW⟩ := T.i_WINDOW
    refine ⟨_, (pss_cons (ps_par (i := 5) (j := 6) (by rfl) nd rfl rfl (by decide) rfl rfl (pa_cons (C8.pe_gc (v := .ref (He.ga K "NEAR")) (by rfl) ⟨_, T.g_NEAR, rfl⟩) (pa_cons pe_non pa_nil)) (by rfl))
  (pss_cons (ps_set (i := 7) nd rfl (.inl rfl) (pe_mkm mm hr (by decide) (by rfl) (pa_cons pe_str (pa_cons (pv 2) pa_nil)) (pk_cons (pe_fld (pv 0) (by rfl)) pk_nil)))
  (pss_cons (ps_for PassesOwn.never rfl (pi_range2 (by rfl) T.n_range (pa_cons (pe_callB (call_max2 rfl) (by rfl) T.n_max (by decide +kernel) (pa_cons (pv 3) (pa_cons (pe_op op_sub (pv 4) (C8.pe_gc (v := .int 10) (by rfl) ⟨_, hW, ⟨tW, rfl⟩⟩)) pa_nil))) (pa_cons (pe_callB (call_min2 rfl) (by rfl) T.n_min (by decide +kernel) (pa_cons (pe_callB call_len (by rfl) T.n_len PySem.boot_len (pa_cons (pv 1) pa_nil)) (pa_cons (pe_op op_add (pe_op op_add (pv 4) (C8.pe_gc (v := .int 10) (by rfl) ⟨_, hW, ⟨tW, rfl⟩⟩)) pe_int) pa_nil))) pa_nil))) (pg_name (i := 8) nd rfl (.inl rfl))
  (pss_cons (ps_expr (C8.pe_mt cso hr (by decide) (pv 7) (pa_cons (pe_ix ix_list (pv 1) (pv 8) (fun _ _ => rfl)) pa_nil)))
  (pss_cons (ps_asg (C8.pe_mt0 cr hr (by decide) (pv 7)) (pg_tup (by rfl) (pgs_cons (pg_name (i := 9) nd rfl (.inl rfl)) (pgs_cons (pg_name (i := 10) nd rfl (.inl rfl)) pgs_nil))))
  (pss_cons (ps_set (i := 11) nd rfl (.inl rfl) (pe_op op_sub (pe_op op_mul (pv 9) (pe_ix ix_tup (pv 5) pe_int (fun _ _ => rfl))) (pe_op op_mul (pe_ix ix_tup (pv 5) pe_int (fun _ _ => rfl)) (pv 10))))
  (pss_one (ps_if (PW.pt (pw_or (pt_cmpR op_gt (pv 11) pe_int (nomark _)) (pw_or1 (PW.pt (pw_and (pt_cmpR op_eq (pv 11) pe_int (nomark _)) (pw_and1 (pt_cmpR op_isN (pv 6) pe_non (nomark _)))))))) (pss_one (ps_par (i := 5) (j := 6) (by rfl) nd rfl rfl (by decide) rfl rfl (pa_cons (pe_tup (pa_cons (pv 9) (pa_cons (pv 10) pa_nil))) (pa_cons (pv 8) pa_nil)) (by rfl))) pss_nil))))))
  (pss_one (ps_ret (pv 6)))))), ?_⟩
    have near : ∀ H', SqT K H' (He.ga K "NEAR") [.int 3, .int 4] := fun H' => He.tupB_ok (exK_near T.near) H'
    refine ⟨_, _, rfl, _, rfl, _, rfl, d, _, dx, _, _, rfl, D.ob, T.c_Differ, T.no_Differ_sign_junk, df_s, rfl, rfl, fun m mx nm nmx nmm => ?_⟩
    have s0 : Same H (upd (upd H mx (.own m)) m (.ins (He.ga K "Matcher") mx [])) := made_same0 nm nmx
    refine ⟨m, mx, tv [], tv l2, sj, ch [], ch l2, rfl, upd_same, seq_ch (by decide), seq_ch (by omega), sm_ch hl2, D.s.mono s0, fun H1 sx M => ⟨rfl, ?_⟩⟩
    have s1 := made_same nm nmx sx
    have lch : (ch l2).length ≤ 60 := by rw [List.length_map]; exact hl2
    refine ⟨_, rfl, _, rfl, _, _, rfl, rfl, _, _, rfl, _, rfl, _, xs.length, rfl, .inl ⟨_, s1.seq ha, by simp⟩, _, rfl, _, _, rfl, rfl, _, _, rfl, rfl, _, _, rfl, _, _, rfl, ⟨?_, ?_, ?_, ?_⟩, ?_⟩
    · split <;> omega
    · split <;> omega
    · split <;> omega
    · split <;> omega
    generalize hlo : (if (p2 : Int) - 10 > (used : Int) then (p2 : Int) - 10 else (used : Int)) = lo
    generalize hhi : (if (p2 : Int) + 10 + 1 < (xs.length : Int) then (p2 : Int) + 10 + 1 else (xs.length : Int)) = hi
    have lo1 : (used : Int) ≤ lo := by rw [← hlo]; split <;> omega
    have hi1 : hi ≤ (xs.length : Int) := by rw [← hhi]; split <;> omega
    refine for_range (lo := lo) (n := (hi - lo).toNat) (fun t σ H' => ∃ (b : Addr) (x y : Int) (v : V) (xs0 : List Ln) (u8 u9 u10 u11 : Option V), σ = [some (.ref d), some (.ref a), some (tv l2), some (iv used), some (iv p2), some (.ref b), some v, some (.ref m), u8, u9, u10, u11] ∧
        Same H H' ∧ MAt K H' m xs0 (ch l2) ∧ SqT K H' b [.int x, .int y] ∧ Small x ∧ Small y ∧ (v = .non ∨ ∃ pl : Nat, v = iv pl ∧ used ≤ pl ∧ pl < xs.length))
      ⟨_, 3, 4, .non, ch [], _, _, _, _, rfl, s1, M, near _, ⟨by decide, by decide⟩, ⟨by decide, by decide⟩, .inl rfl⟩ ?_ ?_
    · rintro t σ H' ht ⟨b, x, y, v, xs0, u8, u9, u10, u11, rfl, sm, M, hb, hx, hy, hv⟩
      obtain ⟨pl, hpl⟩ : ∃ pl : Nat, lo + (t : Nat) = (pl : Int) := ⟨(lo + (t : Nat)).toNat, by omega⟩
      have pl1 : used ≤ pl := by omega
      have pl2 : pl < xs.length := by omega
      have hxp : xs[pl]? = some (xs[pl]) := List.getElem?_eq_getElem pl2
      have lxp := hX _ (List.mem_of_getElem? hxp)
      obtain ⟨mdx, mjv, ma, mb, md, mj, mp, mk, mjs, M'⟩ := id M
      refine ⟨_, rfl, m, mdx, _, rfl, M'.ob, mf_no1, _, rfl, _, rfl, a, _, _, _, rfl, rfl, sm.seq ha, at_of hpl (map_at hxp), m, tv (xs[pl]), xs0, ch l2, ch (xs[pl]), rfl, M, seq_ch (by omega), fun H2 sx2 M2 => ?_⟩
      have sm2 : Same H H2 := sx_same (sx_trans (sx_of sm) sx2) fun b hb => by rw [List.mem_singleton.mp hb]; exact nm
      have hb2 : SqT K H2 b [.int x, .int y] := SqT.sx hb M'.ob sx2
      obtain ⟨mdx2, mjv2, ma2, mb2, md2, mj2, mp2, mk2, mjs2, M2'⟩ := id M2
      refine ⟨_, rfl, m, mdx2, _, rfl, M2'.ob, mf_no10, m, ch (xs[pl]), ch l2, rfl, M2, by rw [List.length_map]; exact lxp, lch, fun H3 p aa bb s3 hp sa sb => ?_⟩
      have hb3 : SqT K H3 b [.int x, .int y] := SqT.mono' hb2 s3
      refine ⟨p, _, rfl, SqT.of hp, rfl, _, _, rfl, _, _, rfl, rfl, ?_⟩
      refine ⟨_, rfl, _, rfl, b, _, _, _, rfl, rfl, hb3, at_of (j := 1) rfl rfl, _, _, rfl, rfl, small_mul sa, _, rfl, b, _, _, _, rfl, rfl, hb3, at_of (j := 0) rfl rfl, _, rfl, _, _, rfl, rfl, small_mul hx, _, _, rfl, rfl, ?_⟩
      have els : ∃ (b' : Addr) (x' y' : Int) (v' : V) (xs0' : List Ln) (u8' u9' u10' u11' : Option V), [some (V.ref d), some (.ref a), some (tv l2), some (iv used), some (iv p2), some (.ref b), some v, some (.ref m), some (.int (lo + (t : Nat))), some (.int aa), some (.int bb), some (.int (aa * y - x * bb))] = [some (.ref d), some (.ref a), some (tv l2), some (iv used), some (iv p2), some (.ref b'), some v', some (.ref m), u8', u9', u10', u11'] ∧
          Same H H3 ∧ MAt K H3 m xs0' (ch l2) ∧ SqT K H3 b' [.int x', .int y'] ∧ Small x' ∧ Small y' ∧ (v' = .non ∨ ∃ pl : Nat, v' = iv pl ∧ used ≤ pl ∧ pl < xs.length) :=
        ⟨b, x, y, v, ch (xs[pl]), _, _, _, _, rfl, sm2.trans s3, M2.mono s3, hb3, hx, hy, hv⟩
      have thn : ∀ q, H3 q = none → ∃ (b' : Addr) (x' y' : Int) (v' : V) (xs0' : List Ln) (u8' u9' u10' u11' : Option V), [some (V.ref d), some (.ref a), some (tv l2), some (iv used), some (iv p2), some (.ref q), some (.int (lo + (t : Nat))), some (.ref m), some (.int (lo + (t : Nat))), some (.int aa), some (.int bb), some (.int (aa * y - x * bb))] = [some (.ref d), some (.ref a), some (tv l2), some (iv used), some (iv p2), some (.ref b'), some v', some (.ref m), u8', u9', u10', u11'] ∧
          Same H (upd H3 q (.tup [.int aa, .int bb])) ∧ MAt K (upd H3 q (.tup [.int aa, .int bb])) m xs0' (ch l2) ∧ SqT K (upd H3 q (.tup [.int aa, .int bb])) b' [.int x', .int y'] ∧ Small x' ∧ Small y' ∧ (v' = .non ∨ ∃ pl : Nat, v' = iv pl ∧ used ≤ pl ∧ pl < xs.length) := fun q hq =>
        ⟨q, aa, bb, _, ch (xs[pl]), _, _, _, _, rfl, (sm2.trans s3).trans (same_new hq), (M2.mono s3).mono (same_new hq), SqT.of upd_same, sa, sb, .inr ⟨pl, by rw [hpl], pl1, pl2⟩⟩
      refine ⟨_, rfl, _, _, rfl, rfl, _, rfl, iteD (fun _ => iteT ⟨_, rfl, _, rfl, sl2, fun q hq => ⟨_, rfl, _, _, rfl, thn q hq⟩⟩) fun _ => ⟨_, rfl, rfl, _, rfl, iteD (fun _ => ⟨_, rfl, rfl, _, rfl, iteB (fun _ => ⟨_, rfl, _, rfl, sl2, fun q hq => ⟨_, rfl, _, _, rfl, thn q hq⟩⟩) fun _ => els⟩) fun _ => iteF els⟩⟩
    · rintro σ H' ⟨b, x, y, v, xs0, u8, u9, u10, u11, rfl, sm, M, hb, hx, hy, hv⟩
      exact ⟨_, rfl, k H' v sm hv⟩
end
end TwK

set_option Elab.async false
set_option linter.all false
set_option maxRecDepth 100000
set_option maxHeartbeats 2000000
set_option pp.deepTerms false
set_option pp.deepTerms.threshold 6
namespace TwK
open PySem PySem.Spec PyProof.Rows L2 SX
/-- a list of new pieces brought by a call, taken over -/
theorem Bld.pushC {H0 H H' : Hp} {f : Addr} {gs gs2 : List V} {ps ps2 : List Pc} (b : Bld H0 H f gs) (hP : Paired (PieceAt (Own H0 [f] H)) gs ps) (s : Same H H') (hP2 : Paired (PieceAt (New H H')) gs2 ps2) :
    Bld H0 (upd H' f (.lst (gs ++ gs2))) f (gs ++ gs2) ∧ Paired (PieceAt (Own H0 [f] (upd H' f (.lst (gs ++ gs2))))) (gs ++ gs2) (ps ++ ps2) := by
  refine ⟨(b.call s).push, ?_⟩
  rw [(b.call s).push_own]
  exact Paired.app (pcs_mono hP (own_call s)) (pcs_mono hP2 b.made)
section
variable {P : Program} {w : World} {K : PySem.W.Frag} {mg : Str → Option Value} {base : Heap}
theorem sc_replaced : FnScope ["self", "ones", "others", "found", "used", "used2", "place2", "line2", "place"] ["self", "ones", "others"] (defScope sDReplaced) := ⟨rfl, rfl, rfl, by decide +kernel, rfl, by decide +kernel, by decide +kernel⟩
def spReplaced (K : PySem.W.Frag) : Sp := fun vs H Q _ => ∃ (d a b : Addr) (xs ys : List Ln), vs = [.ref d, .ref a, .ref b] ∧ DAt K H d ∧ SqL K H a (xs.map tv) ∧ SqL K H b (ys.map tv) ∧ (∀ l ∈ xs, l.length ≤ 60) ∧ (∀ l ∈ ys, l.length ≤ 60) ∧ xs.length ≤ 60 ∧ ys.length ≤ 60 ∧
  ∀ (H' : Hp) (q : Addr) (ps : List Pc), Same H H' → PcsAt (New H H') q ps → PcsOk ps xs ys → Q (.ref q) H'
theorem ok_replaced (T : TX K mg) (cp : C8.Met P w K mg base 6 (He.ga K "Differ") "partner" (spPartner K) []) (cpd : C8.Met P w K mg base 6 (He.ga K "Differ") "paired" (spPaired K) []) (ct : C8.Cal P w K mg base 1 "told_apart" (spTold K) []) : C8.Met P w K mg base 7 (He.ga K "Differ") "replaced" (spReplaced K) [] := by
  refine metN T.f_DReplaced T.c_Differ T.me_Differ_replaced sc_replaced (fun _ _ _ _ _ _ us hl => match us, hl with | [_, _, _], _ => rfl) (fun vs H Q E h => ?_) (fun cdv A outer s H vs Q E hr h => ?_)
  · obtain ⟨d, a, b, xs, ys, rfl, _⟩ := h
    rfl
  · obtain ⟨d, a, b, xs, ys, rfl, D, ha, hb, hX, hY, lX, lY, k⟩ := h
    obtain ⟨dx, lj, sj, D'⟩ := id D
    have nd := sc_replaced.nd
    refine ⟨_, (pss_cons (ps_par3 (i := 3) (j := 4) (l := 5) rfl nd rfl rfl rfl (by decide) (by decide) (by decide) rfl rfl rfl (pa_cons (pe_lst pa_nil) (pa_cons pe_int (pa_cons pe_int pa_nil))) (by rfl))
  (pss_cons (ps_for PassesOwn.never rfl (pi_enum (by rfl) T.n_enumerate (pa_cons (pv 2) pa_nil)) (pg_tup (by rfl) (pgs_cons (pg_name (i := 6) nd rfl (.inl rfl)) (pgs_cons (pg_name (i := 7) nd rfl (.inl rfl)) pgs_nil)))
  (pss_cons (ps_set (i := 8) nd rfl (.inl rfl) (C8.pe_mt cp hr (by decide) (pv 0) (pa_cons (pv 1) (pa_cons (pv 7) (pa_cons (pv 4) (pa_cons (pv 6) pa_nil))))))
  (pss_one (ps_if (pt_cmpR op_notN (pv 8) pe_non (nomark _)) (pss_cons (ps_expr (pe_bm PySem.F.plainAttrs_list PySem.F.slot_list_extend PySem.F.type_list_extend mt_extend (pv 3) (pa_cons (C8.pe_c ct hr (by decide) rfl (pa_cons (pe_slice sl_list (pv 1) (po_some (pv 4)) (po_some (pv 8))) (pa_cons (pe_slice sl_list (pv 2) (po_some (pv 5)) (po_some (pv 6))) pa_nil))) pa_nil)))
  (pss_cons (ps_expr (pe_bm PySem.F.plainAttrs_list PySem.F.slot_list_append PySem.F.type_list_append mt_append (pv 3) (pa_cons (C8.pe_mt cpd hr (by decide) (pv 0) (pa_cons (pe_ix ix_list (pv 1) (pv 8) (fun _ _ => rfl)) (pa_cons (pv 7) pa_nil))) pa_nil)))
  (pss_one (ps_par (i := 4) (j := 5) (by rfl) nd rfl rfl (by decide) rfl rfl (pa_cons (pe_op op_add (pv 8) pe_int) (pa_cons (pe_op op_add (pv 6) pe_int) pa_nil)) (by rfl))))) pss_nil))))
  (pss_one (ps_ret (pe_op op_cat (pv 3) (C8.pe_c ct hr (by decide) rfl (pa_cons (pe_slice sl_list (pv 1) (po_some (pv 4)) po_none) (pa_cons (pe_slice sl_list (pv 2) (po_some (pv 5)) po_none) pa_nil)))))))), ?_⟩
    have line : ∀ {n : Nat}, n ≤ 500 → n ≤ sizeLine := fun {n} h => by rw [sizeLine_eq]; omega
    have lt : ∀ {n : Nat}, n ≤ 500 → n < sizeLine := fun {n} h => by rw [sizeLine_eq]; omega
    refine ⟨Nat.zero_le _, fun f hf => ⟨_, _, _, rfl, ?_⟩⟩
    refine ⟨_, rfl, b, _, rfl, (same_new hf).seq hb, for_gen (n := ys.length) (fun i σ H' => ∃ (gs : List V) (ps : List Pc) (u u2 : Nat) (v6 v7 v8 : Option V), σ = [some (.ref d), some (.ref a), some (.ref b), some (.ref f), some (iv u), some (iv u2), v6, v7, v8] ∧
        Bld H H' f gs ∧ Paired (PieceAt (Own H [f] H')) gs ps ∧ PcsOk ps (xs.take u) (ys.take u2) ∧ u ≤ xs.length ∧ u2 ≤ i)
      ⟨[], [], 0, 0, _, _, _, rfl, Bld.start (Same.refl _) hf, .nil, PcsOk.nil, Nat.zero_le _, Nat.le_refl _⟩ ?_ ?_ ?_ ?_⟩
    · rintro σ H' ⟨_, _, _, _, _, _, _, _, B, _⟩
      exact ⟨_, B.same.seq hb, by rw [List.length_map]; exact Nat.le_refl _⟩
    · rintro i σ H' hi ⟨_, _, _, _, _, _, _, _, B, _⟩
      exact ⟨_, tv (ys[i]), B.same.seq hb, map_at (List.getElem?_eq_getElem hi)⟩
    · rintro i x σ H' H'' hi ⟨gs, ps, u, u2, v6, v7, v8, rfl, B, hP, hOk, hu, hu2⟩ ⟨T0, y, rfl, hT0, rfl, hy⟩
      have hyi : ys[i]? = some (ys[i]) := List.getElem?_eq_getElem hi
      have ey : y = tv (ys[i]) := Option.some.inj ((hy _ (B.same.seq hb)).symm.trans (map_at hyi))
      subst ey
      have ly := hY _ (List.mem_of_getElem? hyi)
      have B1 := B.new (o := .tup [.int (i : Nat), tv (ys[i])]) hT0
      have hP1 := pcs_mono hP (own_new (o := .tup [.int (i : Nat), tv (ys[i])]) hT0)
      refine ⟨T0, _, rfl, SqT.of upd_same, rfl, _, _, rfl, _, _, rfl, rfl, ?_⟩
      refine ⟨_, rfl, d, dx, _, rfl, B1.same _ _ D'.ob, df_no3, _, rfl, _, rfl, _, rfl, _, rfl, d, a, xs, ys[i], u, i, rfl, D.mono B1.same, B1.same.seq ha, hX, ly, by omega, by omega, by omega, fun H2 v s2 hv => ?_⟩
      have B2 := B1.call s2
      have hP2 := pcs_mono hP1 (own_call s2)
      rcases hv with rfl | ⟨pl, rfl, p1, p2⟩
      · exact ⟨_, rfl, rfl, _, rfl, iteF ⟨gs, ps, u, u2, _, _, _, rfl, B2, hP2, hOk, hu, by omega⟩⟩
      refine ⟨_, rfl, rfl, _, rfl, iteT ?_⟩
      refine ⟨_, rfl, .inl ⟨rfl, _, SqL.of B2.at_⟩, _, rfl, _, rfl, _, rfl, _, rfl, _, rfl, a, _, rfl, B2.same.seq ha, fun s1 hs1 => ⟨_, rfl, _, rfl, _, rfl, _, rfl, _, rfl, b, _, rfl, (B2.same.trans (same_new hs1)).seq hb, fun s2 hs2 => ?_⟩⟩
      rw [cut_mid p1 (by omega)] at hs2 ⊢
      rw [cut_mid hu2 (by omega)]
      have B3 := (B2.new (o := .lst (((xs.drop u).take (pl - u)).map tv)) hs1).new (o := .lst (((ys.drop u2).take (i - u2)).map tv)) hs2
      have hP3 := pcs_mono (pcs_mono hP2 (own_new (o := .lst (((xs.drop u).take (pl - u)).map tv)) hs1)) (own_new (o := .lst (((ys.drop u2).take (i - u2)).map tv)) hs2)
      refine ⟨s1, s2, _, _, rfl, SqL.of (same_new hs2 _ _ upd_same), SqL.of upd_same, by rw [List.length_take, List.length_drop]; omega, by rw [List.length_take, List.length_drop]; omega, fun H3 q ps2 s3 hC hOk2 => ?_⟩
      obtain ⟨gs2, hq, hPn⟩ := hC
      have g1 := Paired.length hP3
      have g2 := Paired.length hPn
      have q1 := hOk.len
      have q2 := hOk2.len
      rw [List.length_take, List.length_take] at q1
      rw [List.length_take, List.length_drop, List.length_take, List.length_drop] at q2
      refine ⟨f, q, gs, gs2, rfl, rfl, (B3.call s3).at_, own_same _ _ hq, line (by omega), ?_⟩
      obtain ⟨B4, hP4⟩ := B3.pushC hP3 s3 hPn
      have hOk4 := hOk.app hOk2
      rw [take_mid xs p1, take_mid ys hu2] at hOk4
      have hxp : xs[pl]? = some (xs[pl]) := List.getElem?_eq_getElem p2
      refine ⟨_, rfl, .inl ⟨rfl, _, SqL.of B4.at_⟩, _, rfl, d, dx, _, rfl, B4.same _ _ D'.ob, df_no4, _, rfl, _, rfl, a, _, _, _, rfl, rfl, B4.same.seq ha, at_of rfl (map_at hxp), _, rfl, d, xs[pl], ys[i], rfl, D.mono B4.same, hX _ (List.mem_of_getElem? hxp), ly, fun H5 v p s5 hp e1 e2 ok => ?_⟩
      have g4 := Paired.length hP4
      have q4 := hOk4.len
      rw [List.length_take, List.length_take] at q4
      refine ⟨f, _, v, rfl, rfl, (B4.call s5).at_, lt (by omega), ?_⟩
      obtain ⟨B6, hP6⟩ := B4.pushC (gs2 := [v]) (ps2 := [p]) hP4 s5 (.cons hp .nil)
      refine ⟨_, rfl, _, _, rfl, rfl, _, rfl, _, _, rfl, rfl, _, _, rfl, gs ++ gs2 ++ [v], ps ++ ps2 ++ [p], pl + 1, i + 1, _, _, _, rfl, B6, hP6, ?_, by omega, Nat.le_refl _⟩
      have z := hOk4.snoc ok
      rw [e1, e2] at z
      rw [take_at hxp, take_at hyi]
      exact z
    · rintro σ H' ⟨gs, ps, u, u2, v6, v7, v8, rfl, B, hP, hOk, hu, hu2⟩
      refine ⟨_, rfl, _, rfl, _, rfl, _, rfl, a, _, rfl, B.same.seq ha, fun s1 hs1 => ⟨_, rfl, _, rfl, _, rfl, b, _, rfl, (B.same.trans (same_new hs1)).seq hb, fun s2 hs2 => ?_⟩⟩
      rw [cut_from hu] at hs2 ⊢
      rw [cut_from hu2]
      have B3 := (B.new (o := .lst ((xs.drop u).map tv)) hs1).new (o := .lst ((ys.drop u2).map tv)) hs2
      have hP3 := pcs_mono (pcs_mono hP (own_new (o := .lst ((xs.drop u).map tv)) hs1)) (own_new (o := .lst ((ys.drop u2).map tv)) hs2)
      refine ⟨s1, s2, _, _, rfl, SqL.of (same_new hs2 _ _ upd_same), SqL.of upd_same, by rw [List.length_drop]; omega, by rw [List.length_drop]; omega, fun H3 q ps2 s3 hC hOk2 => ?_⟩
      obtain ⟨gs2, hq, hPn⟩ := hC
      have g1 := Paired.length hP3
      have g2 := Paired.length hPn
      have q1 := hOk.len
      have q2 := hOk2.len
      rw [List.length_take, List.length_take] at q1
      rw [List.length_drop, List.length_drop] at q2
      have B4 := B3.call s3
      have hOk4 := hOk.app hOk2
      rw [List.take_append_drop, List.take_append_drop] at hOk4
      refine ⟨f, q, gs, gs2, rfl, rfl, B4.at_, own_same _ _ hq, line (by omega), fun r hr => k _ r (ps ++ ps2) (B4.same.trans (same_new hr)) ⟨gs ++ gs2, own_iff.mpr ⟨by simp, B4.same.free hr, upd_same⟩, ?_⟩ hOk4⟩
      refine Paired.app (pcs_mono hP3 ((own_call s3).trans (own_one.trans (own_call (same_new hr))))) (pcs_mono hPn ?_)
      exact (own_made (L := []) B3.same (fun b z => nomatch z)).trans (own_call (same_new hr))
end
end TwK

set_option Elab.async false
set_option linter.all false
set_option maxRecDepth 100000
set_option maxHeartbeats 2000000
set_option pp.deepTerms false
set_option pp.deepTerms.threshold 6
namespace TwK
open PySem PySem.Spec PyProof.Rows L2 SX
structure Tx (xs : List Ln) : Prop where
  len : xs.length ≤ 60
  el : ∀ l ∈ xs, l ≠ [] ∧ l.length ≤ 60
theorem Tx.sm {xs : List Ln} (h : Tx xs) : Sm xs := ⟨h.len, fun l hl => ⟨(h.el l hl).1, by have := (h.el l hl).2; omega⟩⟩
theorem mem_cut {xs : List Ln} {i n : Nat} {l : Ln} (h : l ∈ (xs.drop i).take n) : l ∈ xs := List.mem_of_mem_drop (List.mem_of_mem_take h)
section
variable {P : Program} {w : World} {K : PySem.W.Frag} {mg : Str → Option Value} {base : Heap}
theorem sc_pieces : FnScope ["self", "one", "other", "found", "word", "i", "i2", "j", "j2", "line"] ["self", "one", "other"] (defScope sDPieces) := ⟨rfl, rfl, rfl, by decide +kernel, rfl, by decide +kernel, by decide +kernel⟩
def spPieces (K : PySem.W.Frag) : Sp := fun vs H Q _ => ∃ (d a b : Addr) (xs ys : List Ln), vs = [.ref d, .ref a, .ref b] ∧ DAt K H d ∧ SqL K H a (xs.map tv) ∧ SqL K H b (ys.map tv) ∧ Tx xs ∧ Tx ys ∧
  ∀ (H' : Hp) (q : Addr) (ps : List Pc), Same H H' → PcsAt (New H H') q ps → PcsOk ps xs ys → Q (.ref q) H'
theorem ok_pieces (T : TX K mg) (mm : MakM P w K mg base) (cc : C8.Met P w K mg base 5 (He.ga K "Matcher") "codes" (spMCodes K) []) (crep : C8.Met P w K mg base 7 (He.ga K "Differ") "replaced" (spReplaced K) []) : C8.Met P w K mg base 8 (He.ga K "Differ") "pieces" (spPieces K) [] := by
  refine metN T.f_DPieces T.c_Differ T.me_Differ_pieces sc_pieces (fun _ _ _ _ _ _ us hl => match us, hl with | [_, _, _], _ => rfl) (fun vs H Q E h => ?_) (fun cdv A outer s H vs Q E hr h => ?_)
  · obtain ⟨d, a, b, xs, ys, rfl, _⟩ := h
    rfl
  · obtain ⟨d, a, b, xs, ys, rfl, D, ha, hb, hX, hY, k⟩ := h
    obtain ⟨dx, lj, sj, D'⟩ := id D
    have nd := sc_pieces.nd
    refine ⟨_, (pss_cons (ps_set (i := 3) nd rfl (.inl rfl) (pe_lst pa_nil))
  (pss_cons (ps_for PassesOwn.never rfl (pi_list (C8.pe_mt0 cc hr (by decide) (pe_mkm mm hr (by decide) (by rfl) (pa_cons (pv 1) (pa_cons (pv 2) pa_nil)) (pk_cons (pe_fld (pv 0) (by rfl)) pk_nil)))) (pg_tup (by rfl) (pgs_cons (pg_name (i := 4) nd rfl (.inr rfl)) (pgs_cons (pg_name (i := 5) nd rfl (.inl rfl)) (pgs_cons (pg_name (i := 6) nd rfl (.inl rfl)) (pgs_cons (pg_name (i := 7) nd rfl (.inl rfl)) (pgs_cons (pg_name (i := 8) nd rfl (.inl rfl)) pgs_nil))))))
  (pss_one (ps_if (pt_cmpR op_eq (pv 4) pe_str (nomark _)) (pss_one (ps_expr (pe_bm PySem.F.plainAttrs_list PySem.F.slot_list_extend PySem.F.type_list_extend mt_extend (pv 3) (pa_cons (C8.pe_mt crep hr (by decide) (pv 0) (pa_cons (pe_slice sl_list (pv 1) (po_some (pv 5)) (po_some (pv 6))) (pa_cons (pe_slice sl_list (pv 2) (po_some (pv 7)) (po_some (pv 8))) pa_nil))) pa_nil)))) (pss_one (ps_if (pt_cmpR op_eq (pv 4) pe_str (nomark _)) (pss_one (ps_expr (pe_bm PySem.F.plainAttrs_list PySem.F.slot_list_extend PySem.F.type_list_extend mt_extend (pv 3) (pa_cons (pe_lc (own := [("line", 9)]) (g := gName 9) (by rfl) nd (pi_list (pe_slice sl_list (pv 2) (po_some (pv 7)) (po_some (pv 8)))) (blkOk_by (own := [("line", 9)]) (N := ["self", "one", "other", "found", "word", "i", "i2", "j", "j2", "line"]) (sc := defScope sDPieces) (by decide +kernel)) (fun _ _ _ _ _ => (pg_name (i := 9) nd rfl (.inl rfl))) (fun _ _ _ _ _ => pts_nil) (fun _ _ _ _ _ => (pe_tup (pa_cons pe_str (pa_cons (pv 9) pa_nil))))) pa_nil)))) (pss_one (ps_expr (pe_bm PySem.F.plainAttrs_list PySem.F.slot_list_extend PySem.F.type_list_extend mt_extend (pv 3) (pa_cons (pe_lc (own := [("line", 9)]) (g := gName 9) (by rfl) nd (pi_list (pe_slice sl_list (pv 1) (po_some (pv 5)) (po_some (pv 6)))) (blkOk_by (own := [("line", 9)]) (N := ["self", "one", "other", "found", "word", "i", "i2", "j", "j2", "line"]) (sc := defScope sDPieces) (by decide +kernel)) (fun _ _ _ _ _ => (pg_name (i := 9) nd rfl (.inl rfl))) (fun _ _ _ _ _ => pts_nil) (fun _ _ _ _ _ => (pe_tup (pa_cons (pe_ifExp (pt_cmpR op_eq (pv 4) pe_str (nomark _)) pe_str pe_str) (pa_cons (pv 9) pa_nil))))) pa_nil)))))))))
  (pss_one (ps_ret (pv 3))))), ?_⟩
    have line : ∀ {n : Nat}, n ≤ 500 → n ≤ sizeLine := fun {n} h => by rw [sizeLine_eq]; omega
    have lt : ∀ {n : Nat}, n ≤ 500 → n < sizeLine := fun {n} h => by rw [sizeLine_eq]; omega
    have lX := hX.len
    have lY := hY.len
    refine ⟨Nat.zero_le _, fun f hf => ?_⟩
    have B0 : Bld H (upd H f (.lst [])) f [] := Bld.start (Same.refl _) hf
    refine ⟨_, rfl, _, rfl, _, rfl, d, _, dx, _, _, rfl, B0.same _ _ D'.ob, T.c_Differ, T.no_Differ_line_junk, df_l, rfl, rfl, fun m mx nm nmx nmm => ?_⟩
    have s0 : Same (upd H f (.lst [])) (upd (upd (upd H f (.lst [])) mx (.own m)) m (.ins (He.ga K "Matcher") mx [])) := made_same0 nm nmx
    refine ⟨m, mx, .ref a, .ref b, lj, xs, ys, rfl, upd_same, .inl ⟨a, rfl, (B0.same.trans s0).seq ha⟩, .inl ⟨b, rfl, (B0.same.trans s0).seq hb⟩, hY.sm, D'.l.mono (B0.same.trans s0), fun H1 sx M => ⟨rfl, ?_⟩⟩
    have s1 := made_same nm nmx sx
    obtain ⟨_, _, _, _, _, _, _, _, _, M'⟩ := id M
    refine ⟨m, _, _, rfl, M'.ob, mf_no8, m, xs, ys, rfl, M, lX, lY, fun H2 q cs s2 hC hL hcl => ?_⟩
    obtain ⟨us, hq, hU⟩ := hC
    have hq2 : H2 q = some (.lst us) := own_same _ _ hq
    have B2 := (B0.call s1).call s2
    have hfq : f ≠ q := fun e => by
      have z := own_iff.mp hq
      rw [← e, (B0.call s1).at_] at z
      cases z.2.1
    refine ⟨q, rfl, ⟨_, SqL.of hq2⟩, for_list (K := K) (a := q) (xs := us) (fun n σ H' => ∃ (gs : List V) (ps : List Pc) (i j : Nat) (v4 v5 v6 v7 v8 v9 : Option V), σ = [some (.ref d), some (.ref a), some (.ref b), some (.ref f), v4, v5, v6, v7, v8, v9] ∧
        Bld H H' f gs ∧ Paired (PieceAt (Own H [f] H')) gs ps ∧ PcsOk ps (xs.take i) (ys.take j) ∧ Lead xs ys (cs.drop n) i j xs.length ys.length ∧ H' q = some (.lst us) ∧ Paired (TupIs H' Code.v) us cs)
      ⟨[], [], 0, 0, _, _, _, _, _, _, rfl, B2, .nil, PcsOk.nil, hL, hq2, tups_mono hU own_same⟩ ?_ ?_ ?_⟩
    · rintro i σ H' _ ⟨_, _, _, _, _, _, _, _, _, _, _, _, _, _, _, h, _⟩
      exact SqL.of h
    · rintro n x σ H' hx ⟨gs, ps, i, j, v4, v5, v6, v7, v8, v9, rfl, B, hP, hOk, hL, hq, hU⟩
      obtain ⟨c, hc, T0, rfl, hT0⟩ := Paired.at_ hU hx
      rw [drop_at hc] at hL
      obtain ⟨e1, e2, ok, hL⟩ := hL
      subst e1 e2
      refine ⟨T0, c.v, rfl, SqT.of hT0, rfl, _, _, rfl, _, _, rfl, _, _, rfl, _, _, rfl, _, _, rfl, rfl, ?_⟩
      have gl := Paired.length hP
      have ql := hOk.len
      rw [List.length_take, List.length_take] at ql
      -- behind the extend
      have post : ∀ (H3 : Hp) (gs2 : List V) (ps2 : List Pc), Same H' H3 → Paired (PieceAt (New H' H3)) gs2 ps2 → PcsOk ps2 ((xs.drop c.i).take (c.i2 - c.i)) ((ys.drop c.j).take (c.j2 - c.j)) → c.i ≤ c.i2 → c.j ≤ c.j2 → ∀ (v9' : Option V),
          ∃ (gs' : List V) (ps : List Pc) (i j : Nat) (v4 v5 v6 v7 v8 v9 : Option V), [some (V.ref d), some (.ref a), some (.ref b), some (.ref f), some (.str c.w.s), some (iv c.i), some (iv c.i2), some (iv c.j), some (iv c.j2), v9'] = [some (.ref d), some (.ref a), some (.ref b), some (.ref f), v4, v5, v6, v7, v8, v9] ∧
            Bld H (upd H3 f (.lst (gs ++ gs2))) f gs' ∧ Paired (PieceAt (Own H [f] (upd H3 f (.lst (gs ++ gs2))))) gs' ps ∧ PcsOk ps (xs.take i) (ys.take j) ∧ Lead xs ys (cs.drop (n + 1)) i j xs.length ys.length ∧ upd H3 f (.lst (gs ++ gs2)) q = some (.lst us) ∧ Paired (TupIs (upd H3 f (.lst (gs ++ gs2))) Code.v) us cs := by
        intro H3 gs2 ps2 s3 hP2 hOk2 h1 h2 v9'
        obtain ⟨B4, hP4⟩ := B.pushC hP s3 hP2
        refine ⟨gs ++ gs2, ps ++ ps2, c.i2, c.j2, _, _, _, _, _, _, rfl, B4, hP4, ?_, hL, ?_, tups_updL (tups_mono hU s3) (B.call s3).at_⟩
        · have z := hOk.app hOk2
          rw [take_mid xs h1, take_mid ys h2] at z
          exact z
        · rw [upd_ne hfq.symm]
          exact s3 _ _ hq
      have ij : c.i ≤ c.i2 ∧ c.j ≤ c.j2 := by
        obtain ⟨_, _, z⟩ := ok
        cases hw : c.w <;> rw [hw] at z <;> dsimp only at z <;> omega
      have il : c.i2 ≤ xs.length := ok.1
      have jl : c.j2 ≤ ys.length := ok.2.1
      -- the lines of a slice, each a piece
      cases hw : c.w with
      | rep =>
        refine ⟨_, rfl, rfl, _, rfl, iteD (fun _ => ?_) fun ne => absurd rfl ne⟩
        refine ⟨_, rfl, .inl ⟨rfl, _, SqL.of B.at_⟩, _, rfl, d, dx, _, rfl, B.same _ _ D'.ob, df_no2, _, rfl, _, rfl, _, rfl, _, rfl, _, rfl, a, _, rfl, B.same.seq ha, fun s1 hs1 => ⟨_, rfl, _, rfl, _, rfl, _, rfl, _, rfl, b, _, rfl, (B.same.trans (same_new hs1)).seq hb, fun s2 hs2 => ?_⟩⟩
        rw [cut_mid ij.1 il] at hs2 ⊢
        rw [cut_mid ij.2 jl]
        have sm := (same_new (o := .lst (((xs.drop c.i).take (c.i2 - c.i)).map tv)) hs1).trans (same_new (o := .lst (((ys.drop c.j).take (c.j2 - c.j)).map tv)) hs2)
        refine ⟨d, s1, s2, _, _, rfl, D.mono (B.same.trans sm), SqL.of (same_new hs2 _ _ upd_same), SqL.of upd_same, fun l hl => (hX.el l (mem_cut hl)).2, fun l hl => (hY.el l (mem_cut hl)).2, by rw [List.length_take, List.length_drop]; omega, by rw [List.length_take, List.length_drop]; omega, fun H3 q3 ps2 s3 hC hOk2 => ?_⟩
        obtain ⟨gs2, hq3, hPn⟩ := hC
        have g2 := Paired.length hPn
        have q2 := hOk2.len
        rw [List.length_take, List.length_drop, List.length_take, List.length_drop] at q2
        refine ⟨f, q3, gs, gs2, rfl, rfl, (B.call (sm.trans s3)).at_, own_same _ _ hq3, line (by omega), ?_⟩
        have z := post H3 gs2 ps2 (sm.trans s3) (pcs_mono hPn (new_trans sm)) hOk2 ij.1 ij.2 v9
        rw [hw] at z
        exact z
      | ins =>
        refine ⟨_, rfl, rfl, _, rfl, iteD (fun e => absurd e (by decide +kernel)) fun _ => ⟨_, rfl, rfl, _, rfl, iteD (fun _ => ?_) fun ne => absurd rfl ne⟩⟩
        refine ⟨_, rfl, .inl ⟨rfl, _, SqL.of B.at_⟩, _, rfl, _, rfl, _, rfl, _, rfl, _, rfl, b, _, rfl, B.same.seq hb, fun s1 hs1 => ?_⟩
        rw [cut_mid ij.2 jl]
        have sm := same_new (o := .lst (((ys.drop c.j).take (c.j2 - c.j)).map tv)) hs1
        refine ⟨s1, rfl, ⟨_, SqL.of upd_same⟩, fun E1 hE1 => lc_list (K := K) (a := s1) (xs := ((ys.drop c.j).take (c.j2 - c.j)).map tv) (fun t H2 => ∃ gs, Bld (upd H' s1 (.lst (((ys.drop c.j).take (c.j2 - c.j)).map tv))) H2 E1 gs ∧ Paired (PieceAt (Own (upd H' s1 (.lst (((ys.drop c.j).take (c.j2 - c.j)).map tv))) [E1] H2)) gs ((((ys.drop c.j).take (c.j2 - c.j)).take t).map Pc.oth))
          ⟨[], Bld.start (Same.refl _) hE1, .nil⟩ (fun t H2 _ ⟨_, B, _⟩ => SqL.of (B.same _ _ upd_same)) ?_ ?_⟩
        · rintro t x H2 hx ⟨gs, B, hP⟩
          obtain ⟨l, hl, rfl⟩ := map_at' hx
          have gl := Paired.length hP
          rw [List.length_map, List.length_take, List.length_take, List.length_drop] at gl
          refine ⟨rfl, _, rfl, sl2, fun p hp => ⟨gs, (B.new hp).at_, lt (by omega), ?_⟩⟩
          obtain ⟨B2, hP2⟩ := B.pushP (c := .oth l) hp hP ⟨p, rfl, B.at_new hp⟩
          rw [take_at hl, List.map_append]
          exact ⟨_, B2, hP2⟩
        · rintro H3 ⟨gs2, B3, hP3⟩
          rw [List.length_map, List.take_length] at hP3
          have g2 := Paired.length hP3
          rw [List.length_map, List.length_take, List.length_drop] at g2
          have sm3 := sm.trans B3.same
          refine ⟨f, E1, gs, gs2, rfl, rfl, (B.call sm3).at_, B3.at_, line (by omega), ?_⟩
          have hOk2 : PcsOk (((ys.drop c.j).take (c.j2 - c.j)).map Pc.oth) ((xs.drop c.i).take (c.i2 - c.i)) ((ys.drop c.j).take (c.j2 - c.j)) := by
            have ei : c.i2 - c.i = 0 := by
              obtain ⟨_, _, z⟩ := ok
              rw [hw] at z
              have z1 : c.i = c.i2 := z.1
              omega
            rw [ei, List.take_zero]
            exact oths_ok _
          have z := post H3 gs2 _ sm3 (pcs_mono hP3 (own_one.trans (new_trans sm))) hOk2 ij.1 ij.2 v9
          rw [hw] at z
          exact z
      | del =>
        refine ⟨_, rfl, rfl, _, rfl, iteD (fun e => absurd e (by decide +kernel)) fun _ => ⟨_, rfl, rfl, _, rfl, iteD (fun e => absurd e (by decide +kernel)) fun _ => ?_⟩⟩
        refine ⟨_, rfl, .inl ⟨rfl, _, SqL.of B.at_⟩, _, rfl, _, rfl, _, rfl, _, rfl, _, rfl, a, _, rfl, B.same.seq ha, fun s1 hs1 => ?_⟩
        rw [cut_mid ij.1 il]
        have sm := same_new (o := .lst (((xs.drop c.i).take (c.i2 - c.i)).map tv)) hs1
        refine ⟨s1, rfl, ⟨_, SqL.of upd_same⟩, fun E1 hE1 => lc_list (K := K) (a := s1) (xs := ((xs.drop c.i).take (c.i2 - c.i)).map tv) (fun t H2 => ∃ gs, Bld (upd H' s1 (.lst (((xs.drop c.i).take (c.i2 - c.i)).map tv))) H2 E1 gs ∧ Paired (PieceAt (Own (upd H' s1 (.lst (((xs.drop c.i).take (c.i2 - c.i)).map tv))) [E1] H2)) gs ((((xs.drop c.i).take (c.i2 - c.i)).take t).map Pc.one))
          ⟨[], Bld.start (Same.refl _) hE1, .nil⟩ (fun t H2 _ ⟨_, B, _⟩ => SqL.of (B.same _ _ upd_same)) ?_ ?_⟩
        · rintro t x H2 hx ⟨gs, B, hP⟩
          obtain ⟨l, hl, rfl⟩ := map_at' hx
          have gl := Paired.length hP
          rw [List.length_map, List.length_take, List.length_take, List.length_drop] at gl
          refine ⟨rfl, _, rfl, rfl, _, rfl, iteD (fun e => absurd e (by decide +kernel)) fun _ => ⟨_, rfl, sl2, fun p hp => ⟨gs, (B.new hp).at_, lt (by omega), ?_⟩⟩⟩
          obtain ⟨B2, hP2⟩ := B.pushP (c := .one l) hp hP ⟨p, rfl, B.at_new hp⟩
          rw [take_at hl, List.map_append]
          exact ⟨_, B2, hP2⟩
        · rintro H3 ⟨gs2, B3, hP3⟩
          rw [List.length_map, List.take_length] at hP3
          have g2 := Paired.length hP3
          rw [List.length_map, List.length_take, List.length_drop] at g2
          have sm3 := sm.trans B3.same
          refine ⟨f, E1, gs, gs2, rfl, rfl, (B.call sm3).at_, B3.at_, line (by omega), ?_⟩
          have hOk2 : PcsOk (((xs.drop c.i).take (c.i2 - c.i)).map Pc.one) ((xs.drop c.i).take (c.i2 - c.i)) ((ys.drop c.j).take (c.j2 - c.j)) := by
            have ei : c.j2 - c.j = 0 := by
              obtain ⟨_, _, z⟩ := ok
              rw [hw] at z
              have z1 : c.j = c.j2 := z.2
              omega
            rw [ei, List.take_zero]
            exact ones_ok _
          have z := post H3 gs2 _ sm3 (pcs_mono hP3 (own_one.trans (new_trans sm))) hOk2 ij.1 ij.2 v9
          rw [hw] at z
          exact z
      | eq =>
        refine ⟨_, rfl, rfl, _, rfl, iteD (fun e => absurd e (by decide +kernel)) fun _ => ⟨_, rfl, rfl, _, rfl, iteD (fun e => absurd e (by decide +kernel)) fun _ => ?_⟩⟩
        refine ⟨_, rfl, .inl ⟨rfl, _, SqL.of B.at_⟩, _, rfl, _, rfl, _, rfl, _, rfl, _, rfl, a, _, rfl, B.same.seq ha, fun s1 hs1 => ?_⟩
        rw [cut_mid ij.1 il]
        have sm := same_new (o := .lst (((xs.drop c.i).take (c.i2 - c.i)).map tv)) hs1
        refine ⟨s1, rfl, ⟨_, SqL.of upd_same⟩, fun E1 hE1 => lc_list (K := K) (a := s1) (xs := ((xs.drop c.i).take (c.i2 - c.i)).map tv) (fun t H2 => ∃ gs, Bld (upd H' s1 (.lst (((xs.drop c.i).take (c.i2 - c.i)).map tv))) H2 E1 gs ∧ Paired (PieceAt (Own (upd H' s1 (.lst (((xs.drop c.i).take (c.i2 - c.i)).map tv))) [E1] H2)) gs ((((xs.drop c.i).take (c.i2 - c.i)).take t).map Pc.eq))
          ⟨[], Bld.start (Same.refl _) hE1, .nil⟩ (fun t H2 _ ⟨_, B, _⟩ => SqL.of (B.same _ _ upd_same)) ?_ ?_⟩
        · rintro t x H2 hx ⟨gs, B, hP⟩
          obtain ⟨l, hl, rfl⟩ := map_at' hx
          have gl := Paired.length hP
          rw [List.length_map, List.length_take, List.length_take, List.length_drop] at gl
          refine ⟨rfl, _, rfl, rfl, _, rfl, iteD (fun _ => ⟨_, rfl, sl2, fun p hp => ⟨gs, (B.new hp).at_, lt (by omega), ?_⟩⟩) fun ne => absurd rfl ne⟩
          obtain ⟨B2, hP2⟩ := B.pushP (c := .eq l) hp hP ⟨p, rfl, B.at_new hp⟩
          rw [take_at hl, List.map_append]
          exact ⟨_, B2, hP2⟩
        · rintro H3 ⟨gs2, B3, hP3⟩
          rw [List.length_map, List.take_length] at hP3
          have g2 := Paired.length hP3
          rw [List.length_map, List.length_take, List.length_drop] at g2
          have sm3 := sm.trans B3.same
          refine ⟨f, E1, gs, gs2, rfl, rfl, (B.call sm3).at_, B3.at_, line (by omega), ?_⟩
          have hOk2 : PcsOk (((xs.drop c.i).take (c.i2 - c.i)).map Pc.eq) ((xs.drop c.i).take (c.i2 - c.i)) ((ys.drop c.j).take (c.j2 - c.j)) := by
            have eq : (ys.drop c.j).take (c.j2 - c.j) = (xs.drop c.i).take (c.i2 - c.i) := by
              obtain ⟨_, _, z⟩ := ok
              rw [hw] at z
              obtain ⟨_, z2, _, z3⟩ := z
              refine List.ext_getElem? fun t => ?_
              rw [List.getElem?_take, List.getElem?_take, ← z2, List.getElem?_drop, List.getElem?_drop]
              by_cases ht : t < c.i2 - c.i
              · rw [if_pos ht, if_pos ht, z3 t ht]
              · rw [if_neg ht, if_neg ht]
            rw [eq]
            exact eqs_ok _
          have z := post H3 gs2 _ sm3 (pcs_mono hP3 (own_one.trans (new_trans sm))) hOk2 ij.1 ij.2 v9
          rw [hw] at z
          exact z
    · rintro σ H' ⟨gs, ps, i, j, v4, v5, v6, v7, v8, v9, rfl, B, hP, hOk, hL, hq, hU⟩
      have e : cs.drop us.length = [] := by rw [Paired.length hU]; exact List.drop_length
      rw [e] at hL
      obtain ⟨rfl, rfl⟩ := hL
      rw [List.take_length, List.take_length] at hOk
      exact ⟨_, rfl, k _ f ps B.same ⟨gs, B.done, pcs_mono hP own_one⟩ hOk⟩
end
end TwK

set_option Elab.async false
set_option linter.all false
set_option maxRecDepth 100000
set_option maxHeartbeats 2000000
set_option pp.deepTerms false
set_option pp.deepTerms.threshold 6
namespace TwK
open PySem PySem.Spec PyProof.Rows L2 SX
/-! ### spans, sides, rows -/
structure Span where
  w : Wd
  lo : Nat
  hi : Nat
def Span.v (s : Span) : List V := [.str s.w.s, iv s.lo, iv s.hi]
structure Sd where
  pl : Nat
  l : Ln
  sp : List Span
structure Rw where
  a : Option Sd
  b : Option Sd
  c : Bool
def SideAt (Z : Hp) (v : V) (s : Sd) : Prop := ∃ a q, v = .ref a ∧ Z a = some (.tup [iv s.pl, tv s.l, .ref q]) ∧ TupsAt Z Span.v q s.sp
theorem SideAt.mono {Z Z' : Hp} {v : V} {s : Sd} (h : SideAt Z v s) (m : Same Z Z') : SideAt Z' v s := by
  obtain ⟨a, q, e, h, t⟩ := h
  exact ⟨a, q, e, m _ _ h, t.mono m⟩
def OSideAt (Z : Hp) (v : V) : Option Sd → Prop
  | none => v = .non
  | some s => SideAt Z v s
theorem OSideAt.mono {Z Z' : Hp} {v : V} {s : Option Sd} (h : OSideAt Z v s) (m : Same Z Z') : OSideAt Z' v s := by
  cases s with
  | none => exact h
  | some s => exact SideAt.mono h m
def RowAt (Z : Hp) (v : V) (r : Rw) : Prop := ∃ p x y, v = .ref p ∧ Z p = some (.tup [x, y, .bl r.c]) ∧ OSideAt Z x r.a ∧ OSideAt Z y r.b
theorem RowAt.mono {Z Z' : Hp} {v : V} {r : Rw} (h : RowAt Z v r) (m : Same Z Z') : RowAt Z' v r := by
  obtain ⟨p, x, y, e, h, h1, h2⟩ := h
  exact ⟨p, x, y, e, m _ _ h, h1.mono m, h2.mono m⟩
theorem sides_mono {Z Z' : Hp} {vs : List V} {ss : List Sd} (h : Paired (SideAt Z) vs ss) (m : Same Z Z') : Paired (SideAt Z') vs ss := Paired.mono (fun _ _ q => q.mono m) h
theorem osides_mono {Z Z' : Hp} {vs : List V} {ss : List (Option Sd)} (h : Paired (OSideAt Z) vs ss) (m : Same Z Z') : Paired (OSideAt Z') vs ss := Paired.mono (fun _ _ q => q.mono m) h
theorem rows_mono {Z Z' : Hp} {vs : List V} {rs : List Rw} (h : Paired (RowAt Z) vs rs) (m : Same Z Z') : Paired (RowAt Z') vs rs := Paired.mono (fun _ _ q => q.mono m) h
def Code.lo (side : Nat) (c : Code) : Nat := if side = 0 then c.i else c.j
def Code.hi (side : Nat) (c : Code) : Nat := if side = 0 then c.i2 else c.j2
def barV (side : Nat) : List V := if side = 0 then [.str "equal", .str "insert"] else [.str "equal", .str "delete"]
def keepS (side : Nat) (w : Wd) : Bool := match w with
  | .eq => false
  | .rep => true
  | .ins => decide (side ≠ 0)
  | .del => decide (side = 0)
def spS (side : Nat) (cs : List Code) : List Span := (cs.filter fun c => keepS side c.w).map fun c => ⟨c.w, c.lo side, c.hi side⟩
theorem inV_bar {side : Nat} (h : side ≤ 1) (w : Wd) : (!inV (.str w.s) (barV side)) = keepS side w := by
  have e : side = 0 ∨ side = 1 := by omega
  rcases e with rfl | rfl <;> cases w <;> kernel_rfl
theorem code_lo {side : Nat} (h : side ≤ 1) (c : Code) : c.v[1 + 2 * side]? = some (iv (c.lo side)) := by
  have e : side = 0 ∨ side = 1 := by omega
  rcases e with rfl | rfl <;> rfl
theorem code_hi {side : Nat} (h : side ≤ 1) (c : Code) : c.v[2 + 2 * side]? = some (iv (c.hi side)) := by
  have e : side = 0 ∨ side = 1 := by omega
  rcases e with rfl | rfl <;> rfl
section
variable {P : Program} {w : World} {K : PySem.W.Frag} {mg : Str → Option Value} {base : Heap}
theorem sc_spans : FnScope ["codes", "side", "barred", "code"] ["codes", "side"] (defScope sSpansOf) := ⟨rfl, rfl, rfl, by decide +kernel, rfl, by decide +kernel, by decide +kernel⟩
def spSpans (K : PySem.W.Frag) : Sp := fun vs H Q _ => ∃ (q : Addr) (us : List V) (cs : List Code) (side' : Int) (side : Nat), vs = [.ref q, .int side'] ∧ side' = side ∧ side ≤ 1 ∧ SqL K H q us ∧ Paired (TupIs H Code.v) us cs ∧ cs.length ≤ 2000 ∧
  ∀ (H' : Hp) (p : Addr), Same H H' → TupsAt (New H H') Span.v p (spS side cs) → Q (.ref p) H'
abbrev rMulI : R2 := rI CMul fun i j => .int (i * j)
abbrev rAddI : R2 := rI0 fun i j => .int (i + j)
theorem ok_spans (T : TX K mg) : C8.Cal P w K mg base 1 "spans_of" (spSpans K) [] := by
  refine calN T.f_SpansOf T.g_spans_of sc_spans (fun _ _ _ _ _ _ us hl => match us, hl with | [_, _], _ => rfl) (fun vs H Q E h => ?_) (fun cdv A outer s H vs Q E hr h => ?_)
  · obtain ⟨q, us, cs, side', side, rfl, _⟩ := h
    rfl
  · obtain ⟨q, us, cs, side', side, rfl, rfl, hside, hq, hU, hl, k⟩ := h
    have nd := sc_spans.nd
    refine ⟨_, (C8.pss_cut (ps_set (i := 2) nd rfl (.inr rfl) (pe_ifExp (pt_cmpR op_eq (pv 1) pe_int (nomark _)) (pe_tup (pa_cons pe_str (pa_cons pe_str pa_nil))) (pe_tup (pa_cons pe_str (pa_cons pe_str pa_nil)))))
  (pss_one (ps_ret (pe_lc (own := [("code", 3)]) (g := gName 3) (tt := tTest (tOp (rIn K true) (tOp (rIxT K) (tVar 3) (tC (.int 0))) (tVar 2)))
        (te := tTup (tCons (tOp (rIxT K) (tVar 3) (tC (.int 0))) (tCons (tOp (rIxT K) (tVar 3) (tOp rAddI (tC (.int 1)) (tOp rMulI (tC (.int 2)) (tVar 1)))) (tCons (tOp (rIxT K) (tVar 3) (tOp rAddI (tC (.int 2)) (tOp rMulI (tC (.int 2)) (tVar 1)))) tNil)))) (by rfl) nd (pi_list (pv 0))
        (blkOk_by (own := [("code", 3)]) (N := ["codes", "side", "barred", "code"]) (sc := defScope sSpansOf) (by decide +kernel)) (fun _ _ _ _ _ => (pg_name (i := 3) nd rfl (.inl rfl))) (fun _ _ _ _ _ => pts_one (pt_cmpR op_notIn_seq (pe_ix ix_tup (pv 3) pe_int (fun _ _ => rfl)) (pv 2) (by rfl)))
        (fun _ _ _ _ _ => (pe_tup (pa_cons (pe_ix ix_tup (pv 3) pe_int (fun _ _ => rfl)) (pa_cons (pe_ix ix_tup (pv 3) (pe_op op_add pe_int (pe_op op_mul pe_int (pv 1))) (fun _ _ => rfl)) (pa_cons (pe_ix ix_tup (pv 3) (pe_op op_add pe_int (pe_op op_mul pe_int (pv 1))) (fun _ _ => rfl)) pa_nil))))))))), ?_⟩
    refine ⟨fun σ H1 => ∃ bt : Addr, σ = [some (.ref q), some (iv side), some (.ref bt), none] ∧ Same H H1 ∧ H1 bt = some (.tup (barV side)), ?_, ?_⟩
    · refine ⟨_, rfl, rfl, _, rfl, iteD (fun e => ⟨sl2, fun bt hbt => ⟨bt, rfl, same_new hbt, ?_⟩⟩) fun e => ⟨sl2, fun bt hbt => ⟨bt, rfl, same_new hbt, ?_⟩⟩⟩
      · have e0 : side = 0 := by
          have z : ((side : Nat) : Int) = 0 := by injection e
          omega
        unfold barV
        rw [if_pos e0]
        exact upd_same
      · have e0 : side ≠ 0 := fun z => e (by rw [z]; rfl)
        unfold barV
        rw [if_neg e0]
        exact upd_same
    · rintro σ H1 ⟨bt, rfl, s1, hbt⟩
      refine ⟨_, rfl, q, rfl, ⟨_, s1.seq hq⟩, fun D hD => lc_list (K := K) (a := q) (xs := us) (fun i H2 => ∃ gs, Bld H1 H2 D gs ∧ Paired (TupIs (Own H1 [D] H2) Span.v) gs (spS side (cs.take i))) ⟨[], Bld.start (Same.refl _) hD, .nil⟩ (fun i H2 _ ⟨_, B, _⟩ => (s1.trans B.same).seq hq) ?_ ?_⟩
      · rintro i x H2 hx ⟨gs, B, hP⟩
        obtain ⟨c, hc, T0, rfl, hT0⟩ := Paired.at_ hU hx
        have hT2 : SqT K H2 T0 c.v := SqT.of (B.same _ _ (s1 _ _ hT0))
        have gl := Paired.length hP
        have fl : (spS side (cs.take i)).length ≤ 2000 := by
          unfold spS
          rw [List.length_map]
          refine Nat.le_trans (List.length_filter_le _ _) ?_
          rw [List.length_take]
          omega
        refine ⟨rfl, _, rfl, T0, _, _, _, rfl, rfl, hT2, at_of (j := 0) rfl rfl, _, rfl, bt, _, rfl, .inr (SqT.of (B.same _ _ hbt)), rfl, ?_, _, rfl, ?_⟩
        · unfold barV
          split <;> rfl
        · have e := inV_bar hside c.w
          have e2 : spS side (cs.take (i + 1)) = spS side (cs.take i) ++ (if keepS side c.w = true then [⟨c.w, c.lo side, c.hi side⟩] else []) := by
            unfold spS
            rw [take_at hc, List.filter_append, List.map_append]
            congr 1
            rw [List.filter_cons, List.filter_nil]
            split <;> rfl
          rw [e2]
          refine iteB (fun z => ?_) fun z => ?_
          · have z : (!inV (.str c.w.s) (barV side)) = true := z
            rw [e] at z
            rw [z]
            refine ⟨_, rfl, T0, _, _, _, rfl, rfl, hT2, at_of (j := 0) rfl rfl, _, rfl, _, rfl, _, _, rfl, rfl, .inl ⟨by decide, by decide⟩, _, _, rfl, rfl, T0, _, _, _, rfl, rfl, hT2, at_of (j := 1 + 2 * side) (by omega) (code_lo hside c),
              _, rfl, _, rfl, _, _, rfl, rfl, .inl ⟨by decide, by decide⟩, _, _, rfl, rfl, T0, _, _, _, rfl, rfl, hT2, at_of (j := 2 + 2 * side) (by omega) (code_hi hside c), sl3, fun p hp => ⟨gs, (B.new hp).at_, by rw [sizeLine_eq]; omega, ?_⟩⟩
            obtain ⟨B2, hP2⟩ := B.pushT (c := (⟨c.w, c.lo side, c.hi side⟩ : Span)) hp hP
            exact ⟨_, B2, hP2⟩
          · have z : (!inV (.str c.w.s) (barV side)) = false := z
            rw [e] at z
            rw [z]
            exact ⟨gs, B, by simpa using hP⟩
      · rintro H2 ⟨gs, B, hP⟩
        have e : cs.take us.length = cs := by rw [Paired.length hU]; exact List.take_length
        rw [e] at hP
        exact k H2 D (s1.trans B.same) (TupsAt.mono ⟨gs, B.done, tups_mono hP own_one⟩ (new_trans s1))
theorem sc_alone : FnScope ["place", "line", "word"] ["place", "line", "word"] (defScope sAlone) := ⟨rfl, rfl, rfl, by decide +kernel, rfl, by decide +kernel, by decide +kernel⟩
def spAlone : Sp := fun vs H Q _ => ∃ (n : Nat) (l : Ln) (wd : Wd), vs = [iv n, tv l, .str wd.s] ∧ l.length ≤ 1000 ∧ ∀ (H' : Hp) (v : V), Same H H' → SideAt (New H H') v ⟨n, l, [⟨wd, 0, l.length⟩]⟩ → Q v H'
theorem ok_alone (T : TX K mg) : C8.Cal P w K mg base 1 "alone" spAlone [] := by
  refine calN T.f_Alone T.g_alone sc_alone (fun _ _ _ _ _ _ us hl => match us, hl with | [_, _, _], _ => rfl) (fun vs H Q E h => ?_) (fun cdv A outer s H vs Q E hr h => ?_)
  · obtain ⟨n, l, wd, rfl, _⟩ := h
    rfl
  · obtain ⟨n, l, wd, rfl, hl, k⟩ := h
    refine ⟨_, (pss_one (ps_ret (pe_tup (pa_cons (pv 0) (pa_cons (pv 1) (pa_cons (pe_lst (pa_cons (pe_tup (pa_cons (pv 2) (pa_cons pe_int (pa_cons (pe_callB call_len (by rfl) T.n_len PySem.boot_len (pa_cons (pv 1) pa_nil)) pa_nil)))) pa_nil)) pa_nil)))))), ?_⟩
    refine ⟨_, rfl, _, rfl, _, rfl, _, rfl, _, l.length, rfl, ⟨S_line hl, (S_len l).symm⟩, sl3, fun p hp => ⟨sl1, fun q hq => ⟨sl3, fun t ht => ?_⟩⟩⟩
    have hpq : upd (upd H p (.tup (Span.v ⟨wd, 0, l.length⟩))) q (.lst [.ref p]) p = some (.tup (Span.v ⟨wd, 0, l.length⟩)) := same_new hq _ _ upd_same
    have s2 : Same H (upd (upd H p (.tup (Span.v ⟨wd, 0, l.length⟩))) q (.lst [.ref p])) := (same_new hp).trans (same_new hq)
    refine k _ (.ref t) (s2.trans (same_new ht)) ⟨t, q, rfl, own_at (s2.free ht) (by simp), [.ref p], own_iff.mpr ⟨by simp, (same_new hp).free hq, same_new ht _ _ upd_same⟩, .cons ⟨p, rfl, own_iff.mpr ⟨by simp, hp, same_new ht _ _ hpq⟩⟩ .nil⟩
end
end TwK

set_option Elab.async false
set_option linter.all false
set_option maxRecDepth 100000
set_option maxHeartbeats 2000000
set_option pp.deepTerms false
set_option pp.deepTerms.threshold 6
namespace TwK
open PySem PySem.Spec PyProof.Rows L2 SX
/-! ### the Sheet -/
def sf (r s w : Addr) : List (Str × V) := [("rows", .ref r), ("spots", .ref s), ("waiting", .ref w)]
section
variable {r s w : Addr}
theorem sf_r : (sf r s w).lookup ("rows" : Str) = some (.ref r) := by kernel_rfl
theorem sf_s : (sf r s w).lookup ("spots" : Str) = some (.ref s) := by kernel_rfl
theorem sf_w : (sf r s w).lookup ("waiting" : Str) = some (.ref w) := by kernel_rfl
theorem sf_put_s (v : Addr) : putF "spots" (.ref v) (sf r s w) = sf r v w := by kernel_rfl
theorem sf_put_w (v : Addr) : putF "waiting" (.ref v) (sf r s w) = sf r s v := by kernel_rfl
theorem sf_len : (sf r s w).length < 1000 := by show 3 < 1000; decide
theorem sf_no1 : (sf r s w).lookup ("put_alone" : Str) = none := by kernel_rfl
theorem sf_no2 : (sf r s w).lookup ("lay" : Str) = none := by kernel_rfl
theorem sf_no3 : (sf r s w).lookup ("put_both" : Str) = none := by kernel_rfl
end
structure ShA where
  sh : Addr
  dx : Addr
  r : Addr
  s : Addr
  w : Addr
  w0 : Addr
  w1 : Addr
def ShA.L (a : ShA) : List Addr := [a.sh, a.r, a.s, a.w, a.w0, a.w1]
structure ShS where
  rows : List Rw
  n0 : Nat
  n1 : Nat
  L : List Sd
  R : List Sd
structure Dj (r s w w0 w1 : Addr) : Prop where
  rs : r ≠ s
  rw : r ≠ w
  r0 : r ≠ w0
  r1 : r ≠ w1
  sw : s ≠ w
  s0 : s ≠ w0
  s1 : s ≠ w1
  v0 : w ≠ w0
  v1 : w ≠ w1
  z1 : w0 ≠ w1
structure Sh (K : PySem.W.Frag) (H0 H : Hp) (a : ShA) (t : ShS) (gr gl g2 : List V) : Prop where
  same : Same H0 H
  fr : ∀ b ∈ a.L, H0 b = none
  ob : H a.sh = some (.ins (He.ga K "Sheet") a.dx (sf a.r a.s a.w))
  hr : H a.r = some (.lst gr)
  hs : H a.s = some (.lst [iv t.n0, iv t.n1])
  hw : H a.w = some (.lst [.ref a.w0, .ref a.w1])
  h0 : H a.w0 = some (.lst gl)
  h1 : H a.w1 = some (.lst g2)
  dj : Dj a.r a.s a.w a.w0 a.w1
  rows : Paired (RowAt (Own H0 a.L H)) gr t.rows
  l : Paired (SideAt (Own H0 a.L H)) gl t.L
  rr : Paired (SideAt (Own H0 a.L H)) g2 t.R
section
variable {K : PySem.W.Frag} {H0 H H' : Hp} {a : ShA} {t : ShS} {gr gl g2 gr' gl' : List V}
theorem Sh.call (h : Sh K H0 H a t gr gl g2) (m : Same H H') : Sh K H0 H' a t gr gl g2 :=
  ⟨h.same.trans m, h.fr, m _ _ h.ob, m _ _ h.hr, m _ _ h.hs, m _ _ h.hw, m _ _ h.h0, m _ _ h.h1, h.dj, rows_mono h.rows (own_call m), sides_mono h.l (own_call m), sides_mono h.rr (own_call m)⟩
theorem Sh.inL (h : Sh K H0 H a t gr gl g2) : ∀ b ∈ a.L, ∃ o, H b = some o := fun b hb => by
  unfold ShA.L at hb
  simp only [List.mem_cons, List.not_mem_nil, or_false] at hb
  rcases hb with rfl | rfl | rfl | rfl | rfl | rfl
  · exact ⟨_, h.ob⟩
  · exact ⟨_, h.hr⟩
  · exact ⟨_, h.hs⟩
  · exact ⟨_, h.hw⟩
  · exact ⟨_, h.h0⟩
  · exact ⟨_, h.h1⟩
theorem memr (a : ShA) : a.r ∈ a.L := by unfold ShA.L; simp
theorem mems (a : ShA) : a.s ∈ a.L := by unfold ShA.L; simp
theorem memw (a : ShA) : a.w ∈ a.L := by unfold ShA.L; simp
theorem mem0 (a : ShA) : a.w0 ∈ a.L := by unfold ShA.L; simp
theorem mem1 (a : ShA) : a.w1 ∈ a.L := by unfold ShA.L; simp
theorem memh (a : ShA) : a.sh ∈ a.L := by unfold ShA.L; simp
theorem li {H : Hp} {x m C dx : Addr} {l : List V} {fs : List (Str × V)} (h : H x = some (.lst l)) (g : H m = some (.ins C dx fs)) : x ≠ m := ne_of h g (by intro z; cases z)
theorem Sh.setR (h : Sh K H0 H a t gr gl g2) {rows' : List Rw} (p : Paired (RowAt (Own H0 a.L H)) gr' rows') : Sh K H0 (upd H a.r (.lst gr')) a { t with rows := rows' } gr' gl g2 := by
  have e : Own H0 a.L (upd H a.r (.lst gr')) = Own H0 a.L H := own_in (memr a)
  refine ⟨same_put (h.fr _ (memr a)) h.same, h.fr, ?_, upd_same, ?_, ?_, ?_, ?_, h.dj, by rw [e]; exact p, by rw [e]; exact h.l, by rw [e]; exact h.rr⟩
  · rw [upd_ne (li h.hr h.ob).symm]; exact h.ob
  · rw [upd_ne h.dj.rs.symm]; exact h.hs
  · rw [upd_ne h.dj.rw.symm]; exact h.hw
  · rw [upd_ne h.dj.r0.symm]; exact h.h0
  · rw [upd_ne h.dj.r1.symm]; exact h.h1
theorem Sh.setS (h : Sh K H0 H a t gr gl g2) (n0 n1 : Nat) : Sh K H0 (upd H a.s (.lst [iv n0, iv n1])) a { t with n0 := n0, n1 := n1 } gr gl g2 := by
  have e : Own H0 a.L (upd H a.s (.lst [iv n0, iv n1])) = Own H0 a.L H := own_in (mems a)
  refine ⟨same_put (h.fr _ (mems a)) h.same, h.fr, ?_, ?_, upd_same, ?_, ?_, ?_, h.dj, by rw [e]; exact h.rows, by rw [e]; exact h.l, by rw [e]; exact h.rr⟩
  · rw [upd_ne (li h.hs h.ob).symm]; exact h.ob
  · rw [upd_ne h.dj.rs]; exact h.hr
  · rw [upd_ne h.dj.sw.symm]; exact h.hw
  · rw [upd_ne h.dj.s0.symm]; exact h.h0
  · rw [upd_ne h.dj.s1.symm]; exact h.h1
theorem Sh.set0 (h : Sh K H0 H a t gr gl g2) {L' : List Sd} (p : Paired (SideAt (Own H0 a.L H)) gl' L') : Sh K H0 (upd H a.w0 (.lst gl')) a { t with L := L' } gr gl' g2 := by
  have e : Own H0 a.L (upd H a.w0 (.lst gl')) = Own H0 a.L H := own_in (mem0 a)
  refine ⟨same_put (h.fr _ (mem0 a)) h.same, h.fr, ?_, ?_, ?_, ?_, upd_same, ?_, h.dj, by rw [e]; exact h.rows, by rw [e]; exact p, by rw [e]; exact h.rr⟩
  · rw [upd_ne (li h.h0 h.ob).symm]; exact h.ob
  · rw [upd_ne h.dj.r0]; exact h.hr
  · rw [upd_ne h.dj.s0]; exact h.hs
  · rw [upd_ne h.dj.v0]; exact h.hw
  · rw [upd_ne h.dj.z1.symm]; exact h.h1
theorem Sh.set1 (h : Sh K H0 H a t gr gl g2) {R' : List Sd} (p : Paired (SideAt (Own H0 a.L H)) gl' R') : Sh K H0 (upd H a.w1 (.lst gl')) a { t with R := R' } gr gl gl' := by
  have e : Own H0 a.L (upd H a.w1 (.lst gl')) = Own H0 a.L H := own_in (mem1 a)
  refine ⟨same_put (h.fr _ (mem1 a)) h.same, h.fr, ?_, ?_, ?_, ?_, ?_, upd_same, h.dj, by rw [e]; exact h.rows, by rw [e]; exact h.l, by rw [e]; exact p⟩
  · rw [upd_ne (li h.h1 h.ob).symm]; exact h.ob
  · rw [upd_ne h.dj.r1]; exact h.hr
  · rw [upd_ne h.dj.s1]; exact h.hs
  · rw [upd_ne h.dj.v1]; exact h.hw
  · rw [upd_ne h.dj.z1]; exact h.h0
/-- another set of the things that change: what was told stays, if the new ones were not there -/
theorem own_re {H0 H : Hp} {L L' : List Addr} (h : ∀ b ∈ L', b ∈ L ∨ H b = none) : Same (Own H0 L H) (Own H0 L' H) := fun b u e => by
  obtain ⟨e1, e2, e3⟩ := own_iff.mp e
  refine own_iff.mpr ⟨fun z => ?_, e2, e3⟩
  rcases h b z with q | q
  · exact e1 q
  · rw [q] at e3
    cases e3
/-- self.spots = a new list -/
theorem Sh.newS (h : Sh K H0 H a t gr gl g2) {s' : Addr} (n0 n1 : Nat) (hs' : H s' = none) : Sh K H0 (upd (upd H s' (.lst [iv n0, iv n1])) a.sh (.ins (He.ga K "Sheet") a.dx (sf a.r s' a.w))) { a with s := s' } { t with n0 := n0, n1 := n1 } gr gl g2 := by
  have hh : upd H s' (.lst [iv n0, iv n1]) a.sh = some (.ins (He.ga K "Sheet") a.dx (sf a.r a.s a.w)) := same_new hs' _ _ h.ob
  have up : ∀ {x : Addr} {l : List V}, upd H s' (.lst [iv n0, iv n1]) x = some (.lst l) → upd (upd H s' (.lst [iv n0, iv n1])) a.sh (.ins (He.ga K "Sheet") a.dx (sf a.r s' a.w)) x = some (.lst l) := fun e => by
    rw [upd_ne (li e hh)]; exact e
  have nn : ∀ {x : Addr} {o : HO}, H x = some o → x ≠ s' := fun e => ne_of_none e hs'
  have eo : Same (Own H0 a.L H) (Own H0 ({ a with s := s' } : ShA).L (upd (upd H s' (.lst [iv n0, iv n1])) a.sh (.ins (He.ga K "Sheet") a.dx (sf a.r s' a.w)))) := by
    have e1 : Same (Own H0 a.L H) (Own H0 ({ a with s := s' } : ShA).L H) := own_re fun b hb => by
      unfold ShA.L at hb ⊢
      simp only [List.mem_cons, List.not_mem_nil, or_false] at hb ⊢
      rcases hb with rfl | rfl | rfl | rfl | rfl | rfl
      · simp
      · simp
      · exact .inr hs'
      · simp
      · simp
      · simp
    have e2 : Same (Own H0 ({ a with s := s' } : ShA).L H) (Own H0 ({ a with s := s' } : ShA).L (upd H s' (.lst [iv n0, iv n1]))) := own_new hs'
    refine (e1.trans e2).trans ?_
    rw [own_in (memh { a with s := s' })]
    exact Same.refl _
  refine ⟨same_put (h.fr _ (memh a)) (h.same.trans (same_new hs')), fun b hb => ?_, upd_same, up (same_new hs' _ _ h.hr), up upd_same, up (same_new hs' _ _ h.hw), up (same_new hs' _ _ h.h0), up (same_new hs' _ _ h.h1), ?_, rows_mono h.rows eo, sides_mono h.l eo, sides_mono h.rr eo⟩
  · unfold ShA.L at hb
    simp only [List.mem_cons, List.not_mem_nil, or_false] at hb
    rcases hb with rfl | rfl | rfl | rfl | rfl | rfl
    · exact h.fr _ (memh a)
    · exact h.fr _ (memr a)
    · exact h.same.free hs'
    · exact h.fr _ (memw a)
    · exact h.fr _ (mem0 a)
    · exact h.fr _ (mem1 a)
  · exact ⟨nn h.hr, h.dj.rw, h.dj.r0, h.dj.r1, (nn h.hw).symm, (nn h.h0).symm, (nn h.h1).symm, h.dj.v0, h.dj.v1, h.dj.z1⟩
/-- self.waiting = [[], []] -/
theorem Sh.newW (h : Sh K H0 H a t gr gl g2) {x0 x1 x : Addr} (n0 : H x0 = none) (n1 : upd H x0 (.lst []) x1 = none) (nx : upd (upd H x0 (.lst [])) x1 (.lst []) x = none) :
    Sh K H0 (upd (upd (upd (upd H x0 (.lst [])) x1 (.lst [])) x (.lst [.ref x0, .ref x1])) a.sh (.ins (He.ga K "Sheet") a.dx (sf a.r a.s x))) { a with w := x, w0 := x0, w1 := x1 } { t with L := [], R := [] } gr [] [] := by
  have m1 : Same H (upd H x0 (.lst [])) := same_new n0
  have m2 : Same (upd H x0 (.lst [])) (upd (upd H x0 (.lst [])) x1 (.lst [])) := same_new n1
  have m3 : Same (upd (upd H x0 (.lst [])) x1 (.lst [])) (upd (upd (upd H x0 (.lst [])) x1 (.lst [])) x (.lst [.ref x0, .ref x1])) := same_new nx
  have m := (m1.trans m2).trans m3
  have hh := m _ _ h.ob
  have up : ∀ {y : Addr} {l : List V}, upd (upd (upd H x0 (.lst [])) x1 (.lst [])) x (.lst [.ref x0, .ref x1]) y = some (.lst l) → upd (upd (upd (upd H x0 (.lst [])) x1 (.lst [])) x (.lst [.ref x0, .ref x1])) a.sh (.ins (He.ga K "Sheet") a.dx (sf a.r a.s x)) y = some (.lst l) := fun e => by
    rw [upd_ne (li e hh)]; exact e
  have f1 : H x1 = none := m1.free n1
  have fx : H x = none := (m1.trans m2).free nx
  have d01 : x0 ≠ x1 := ne_of_none upd_same n1
  have dx0 : x0 ≠ x := ne_of_none (m2 _ _ upd_same) nx
  have dx1 : x1 ≠ x := ne_of_none upd_same nx
  have eo : Same (Own H0 a.L H) (Own H0 ({ a with w := x, w0 := x0, w1 := x1 } : ShA).L (upd (upd (upd (upd H x0 (.lst [])) x1 (.lst [])) x (.lst [.ref x0, .ref x1])) a.sh (.ins (He.ga K "Sheet") a.dx (sf a.r a.s x)))) := by
    have e1 : Same (Own H0 a.L H) (Own H0 ({ a with w := x, w0 := x0, w1 := x1 } : ShA).L H) := own_re fun b hb => by
      unfold ShA.L at hb ⊢
      simp only [List.mem_cons, List.not_mem_nil, or_false] at hb ⊢
      rcases hb with rfl | rfl | rfl | rfl | rfl | rfl
      · simp
      · simp
      · simp
      · exact .inr fx
      · exact .inr n0
      · exact .inr f1
    refine (e1.trans (own_call m)).trans ?_
    rw [own_in (memh { a with w := x, w0 := x0, w1 := x1 })]
    exact Same.refl _
  refine ⟨same_put (h.fr _ (memh a)) (h.same.trans m), fun b hb => ?_, upd_same, up (m _ _ h.hr), up (m _ _ h.hs), up upd_same, up (m3 _ _ (m2 _ _ upd_same)), up (m3 _ _ upd_same), ?_, rows_mono h.rows eo, .nil, .nil⟩
  · unfold ShA.L at hb
    simp only [List.mem_cons, List.not_mem_nil, or_false] at hb
    rcases hb with rfl | rfl | rfl | rfl | rfl | rfl
    · exact h.fr _ (memh a)
    · exact h.fr _ (memr a)
    · exact h.fr _ (mems a)
    · exact h.same.free fx
    · exact h.same.free n0
    · exact h.same.free f1
  · exact ⟨h.dj.rs, ne_of_none h.hr fx, ne_of_none h.hr n0, ne_of_none h.hr f1, ne_of_none h.hs fx, ne_of_none h.hs n0, ne_of_none h.hs f1, dx0.symm, dx1.symm, d01⟩
/-- what a call made is ours -/
theorem Sh.made (h : Sh K H0 H a t gr gl g2) : Same (New H H') (Own H0 a.L H') := own_made h.same h.inL
end
def ShX (K : PySem.W.Frag) (H0 H : Hp) (sh : Addr) (t : ShS) : Prop := ∃ a gr gl g2, a.sh = sh ∧ Sh K H0 H a t gr gl g2
end TwK

set_option Elab.async false
set_option linter.all false
set_option maxRecDepth 100000
set_option maxHeartbeats 2000000
set_option pp.deepTerms false
set_option pp.deepTerms.threshold 6
namespace TwK
open PySem PySem.Spec PyProof.Rows L2 SX
def zipR (L R : List Sd) : List Rw := (List.range (max L.length R.length)).map fun i => ⟨L[i]?, R[i]?, true⟩
def ShS.put (t : ShS) (side : Nat) (l : Ln) : ShS := if side = 0 then { t with L := t.L ++ [⟨t.n0, l, [⟨.del, 0, l.length⟩]⟩], n0 := t.n0 + 1 } else { t with R := t.R ++ [⟨t.n1, l, [⟨.ins, 0, l.length⟩]⟩], n1 := t.n1 + 1 }
def ShS.lay (t : ShS) : ShS := { t with rows := t.rows ++ zipR t.L t.R, L := [], R := [] }
def ShS.both (t : ShS) (l l2 : Ln) (cs : List Code) : ShS := { t.lay with rows := t.lay.rows ++ [⟨some ⟨t.n0, l, spS 0 cs⟩, some ⟨t.n1, l2, spS 1 cs⟩, !cs.isEmpty⟩], n0 := t.n0 + 1, n1 := t.n1 + 1 }
def ShS.new : ShS := ⟨[], 0, 0, [], []⟩
structure ShS.Sm (t : ShS) : Prop where
  r : t.rows.length ≤ 1000
  a : t.n0 ≤ 1000
  b : t.n1 ≤ 1000
  l : t.L.length ≤ 1000
  rr : t.R.length ≤ 1000
section
variable {P : Program} {w : World} {K : PySem.W.Frag} {mg : Str → Option Value} {base : Heap}
theorem sc_sinit : FnScope ["self"] ["self"] (defScope sSInit) := ⟨rfl, rfl, rfl, by decide +kernel, rfl, by decide +kernel, by decide +kernel⟩
def spSInit (K : PySem.W.Frag) : Sp := fun vs H Q _ => ∃ (H0 : Hp) (sh dx : Addr), vs = [.ref sh] ∧ Same H0 H ∧ H0 sh = none ∧ H sh = some (.ins (He.ga K "Sheet") dx []) ∧ ∀ H' : Hp, ShX K H0 H' sh ShS.new → Q .non H'
theorem ok_sinit {f : Addr} {fd : FuncData} (T : TX K mg) (F : FunD K "__init__" "Sheet.__init__" (defArgs sSInit) (defBody sSInit) (defScope sSInit) (dSInit.dvs K) (dSInit.kws K) f fd) : FnOk P w K mg base C8.CX0 1 f fd ["self"] (spSInit K) := by
  refine F.ok sc_sinit (fun vs H Q E h => ?_) (fun cdv A outer s H vs Q E hr h => ?_)
  · obtain ⟨H0, sh, dx, rfl, _⟩ := h
    rfl
  · obtain ⟨H0, sh, dx, rfl, sm, nsh, ho, k⟩ := h
    refine ⟨_, PSs.nox (pss_cons (ps_fld (pv 0) (pe_lst pa_nil) rfl)
  (pss_cons (ps_fld (pv 0) (pe_lst (pa_cons pe_int (pa_cons pe_int pa_nil))) rfl)
  (pss_one (ps_fld (pv 0) (pe_lst (pa_cons (pe_lst pa_nil) (pa_cons (pe_lst pa_nil) pa_nil))) rfl)))), ?_⟩
    refine ⟨Nat.zero_le _, fun r hr => ⟨_, rfl, sh, _, dx, _, rfl, same_new hr _ _ ho, T.c_Sheet, T.no_Sheet_rows, lt1000 (by kernel_rfl), ?_⟩⟩
    refine ⟨sl2, fun s hs => ⟨_, rfl, sh, _, dx, _, rfl, same_new hs _ _ upd_same, T.c_Sheet, T.no_Sheet_spots, lt1000 (by kernel_rfl), ?_⟩⟩
    refine ⟨Nat.zero_le _, fun w0 h0 => ⟨Nat.zero_le _, fun w1 h1 => ⟨sl2, fun w hw => ⟨_, rfl, sh, _, dx, _, rfl, same_new hw _ _ (same_new h1 _ _ (same_new h0 _ _ upd_same)), T.c_Sheet, T.no_Sheet_waiting, lt1000 (by kernel_rfl), ?_⟩⟩⟩⟩
    have e : putF "waiting" (.ref w) (putF "spots" (.ref s) (putF "rows" (.ref r) [])) = sf r s w := by kernel_rfl
    rw [e]
    have shr : sh ≠ r := ne_of_none ho hr
    have shs : sh ≠ s := ne_of_none upd_same hs
    have sh0 : sh ≠ w0 := ne_of_none upd_same h0
    have sh1 : sh ≠ w1 := ne_of_none (same_new h0 _ _ upd_same) h1
    have shw : sh ≠ w := ne_of_none (same_new h1 _ _ (same_new h0 _ _ upd_same)) hw
    have r1 : upd (upd H r (.lst [])) sh (.ins (He.ga K "Sheet") dx (putF "rows" (.ref r) [])) r = some (.lst []) := by rw [upd_ne shr.symm]; exact upd_same
    have r2 : upd (upd (upd (upd H r (.lst [])) sh (.ins (He.ga K "Sheet") dx (putF "rows" (.ref r) []))) s (.lst [.int 0, .int 0])) sh (.ins (He.ga K "Sheet") dx (putF "spots" (.ref s) (putF "rows" (.ref r) []))) r = some (.lst []) := by rw [upd_ne shr.symm]; exact same_new hs _ _ r1
    have s2 : upd (upd (upd (upd H r (.lst [])) sh (.ins (He.ga K "Sheet") dx (putF "rows" (.ref r) []))) s (.lst [.int 0, .int 0])) sh (.ins (He.ga K "Sheet") dx (putF "spots" (.ref s) (putF "rows" (.ref r) []))) s = some (.lst [.int 0, .int 0]) := by rw [upd_ne shs.symm]; exact upd_same
    have m2 : Same H0 (upd (upd (upd (upd H r (.lst [])) sh (.ins (He.ga K "Sheet") dx (putF "rows" (.ref r) []))) s (.lst [.int 0, .int 0])) sh (.ins (He.ga K "Sheet") dx (putF "spots" (.ref s) (putF "rows" (.ref r) [])))) :=
      same_put nsh ((same_put nsh (sm.trans (same_new hr))).trans (same_new hs))
    have m3 := (same_new (o := .lst []) h0).trans (same_new (o := .lst []) h1)
    have m4 := m3.trans (same_new (o := .lst [.ref w0, .ref w1]) hw)
    have nsr : H0 r = none := sm.free hr
    have nss : H0 s = none := (same_put nsh (sm.trans (same_new hr))).free hs
    have ns0 : H0 w0 = none := m2.free h0
    have ns1 : H0 w1 = none := (m2.trans (same_new h0)).free h1
    have nsw : H0 w = none := (m2.trans m3).free hw
    refine k _ ⟨⟨sh, dx, r, s, w, w0, w1⟩, [], [], [], rfl, ⟨same_put nsh (m2.trans m4), fun b hb => ?_, upd_same, ?_, ?_, ?_, ?_, ?_, ?_, .nil, .nil, .nil⟩⟩
    · unfold ShA.L at hb
      simp only [List.mem_cons, List.not_mem_nil, or_false] at hb
      rcases hb with rfl | rfl | rfl | rfl | rfl | rfl <;> assumption
    · rw [upd_ne shr.symm]; exact m4 _ _ r2
    · rw [upd_ne shs.symm]; exact m4 _ _ s2
    · rw [upd_ne shw.symm]; exact upd_same
    · rw [upd_ne sh0.symm]; exact same_new hw _ _ (same_new h1 _ _ upd_same)
    · rw [upd_ne sh1.symm]; exact same_new hw _ _ upd_same
    · exact ⟨ne_of_none r1 hs, ne_of_none (m3 _ _ r2) hw, ne_of_none r2 h0, ne_of_none (same_new h0 _ _ r2) h1, ne_of_none (m3 _ _ s2) hw, ne_of_none s2 h0, ne_of_none (same_new h0 _ _ s2) h1, (ne_of_none (same_new h1 _ _ upd_same) hw).symm, (ne_of_none upd_same hw).symm, ne_of_none upd_same h1⟩
theorem sc_putalone : FnScope ["self", "side", "line"] ["self", "side", "line"] (defScope sSPutAlone) := ⟨rfl, rfl, rfl, by decide +kernel, rfl, by decide +kernel, by decide +kernel⟩
def spPutAlone (K : PySem.W.Frag) : Sp := fun vs H Q _ => ∃ (H0 : Hp) (sh : Addr) (t : ShS) (side' : Int) (side : Nat) (l : Ln), vs = [.ref sh, .int side', tv l] ∧ side' = side ∧ side ≤ 1 ∧ ShX K H0 H sh t ∧ t.Sm ∧ l.length ≤ 1000 ∧ ∀ H' : Hp, ShX K H0 H' sh (t.put side l) → Q .non H'
theorem ok_putalone (T : TX K mg) (ca : C8.Cal P w K mg base 1 "alone" spAlone []) : C8.Met P w K mg base 2 (He.ga K "Sheet") "put_alone" (spPutAlone K) [] := by
  refine metN T.f_SPutAlone T.c_Sheet T.me_Sheet_put_alone sc_putalone (fun _ _ _ _ _ _ us hl => match us, hl with | [_, _, _], _ => rfl) (fun vs H Q E h => ?_) (fun cdv A outer s H vs Q E hr h => ?_)
  · obtain ⟨H0, sh, t, side', side, l, rfl, _⟩ := h
    rfl
  · obtain ⟨H0, sh, t, side', side, l, rfl, rfl, hside, ⟨a, gr, gl, g2, rfl, S⟩, sm, hl, k⟩ := h
    refine ⟨_, (pss_cons (ps_expr (pe_bm PySem.F.plainAttrs_list PySem.F.slot_list_append PySem.F.type_list_append mt_append (pe_ix ix_list (pe_fld (pv 0) (by rfl)) (pv 1) (fun _ _ => rfl)) (pa_cons (C8.pe_c ca hr (by decide) rfl (pa_cons (pe_ix ix_list (pe_fld (pv 0) (by rfl)) (pv 1) (fun _ _ => rfl)) (pa_cons (pv 2) (pa_cons (pe_ix ix_list (pe_lst (pa_cons pe_str (pa_cons pe_str pa_nil))) (pv 1) (fun _ _ => rfl)) pa_nil)))) pa_nil)))
  (pss_one (ps_augS (pe_fld (pv 0) (by rfl)) (pv 1) get_list pe_int ip_add set_list))), ?_⟩
    have lt : ∀ {n : Nat}, n ≤ 1000 → n < sizeLine := fun {n} h => by rw [sizeLine_eq]; omega
    have l1 := sm.l
    have l2 := sm.rr
    have gl1 := Paired.length S.l
    have gl2 := Paired.length S.rr
    have e : side = 0 ∨ side = 1 := by omega
    rcases e with rfl | rfl
    · refine ⟨_, rfl, a.sh, _, a.dx, _, _, rfl, S.ob, T.c_Sheet, T.no_Sheet_waiting, sf_w, _, rfl, a.w, _, _, .ref a.w0, rfl, rfl, SqL.of S.hw, at_of (j := 0) rfl rfl, .inl ⟨rfl, _, SqL.of S.h0⟩,
        _, rfl, a.sh, _, a.dx, _, _, rfl, S.ob, T.c_Sheet, T.no_Sheet_spots, sf_s, _, rfl, a.s, _, _, iv t.n0, rfl, rfl, SqL.of S.hs, at_of (j := 0) rfl rfl, _, rfl, sl2, fun q hq => ?_⟩
      have S1 := S.call (same_new (o := .lst [.str "delete", .str "insert"]) hq)
      refine ⟨_, rfl, q, _, _, .str Wd.del.s, rfl, rfl, SqL.of upd_same, at_of (j := 0) rfl rfl, t.n0, l, .del, rfl, hl, fun H2 v s2 hv => ?_⟩
      have S2 := S1.call s2
      refine ⟨a.w0, gl, v, rfl, rfl, S2.h0, lt (by omega), ?_⟩
      have S3 := S2.set0 (Paired.snoc S2.l (hv.mono S1.made))
      refine ⟨_, rfl, a.sh, _, a.dx, _, _, rfl, S3.ob, T.c_Sheet, T.no_Sheet_spots, sf_s, _, rfl, a.s, _, 0, _, rfl, rfl, SqL.of S3.hs, rfl, _, _, rfl, rfl, a.s, _, _, 0, rfl, rfl, S3.hs, rfl, k _ ⟨a, _, _, _, rfl, S3.setS (t.n0 + 1) t.n1⟩⟩
    · refine ⟨_, rfl, a.sh, _, a.dx, _, _, rfl, S.ob, T.c_Sheet, T.no_Sheet_waiting, sf_w, _, rfl, a.w, _, _, .ref a.w1, rfl, rfl, SqL.of S.hw, at_of (j := 1) rfl rfl, .inl ⟨rfl, _, SqL.of S.h1⟩,
        _, rfl, a.sh, _, a.dx, _, _, rfl, S.ob, T.c_Sheet, T.no_Sheet_spots, sf_s, _, rfl, a.s, _, _, iv t.n1, rfl, rfl, SqL.of S.hs, at_of (j := 1) rfl rfl, _, rfl, sl2, fun q hq => ?_⟩
      have S1 := S.call (same_new (o := .lst [.str "delete", .str "insert"]) hq)
      refine ⟨_, rfl, q, _, _, .str Wd.ins.s, rfl, rfl, SqL.of upd_same, at_of (j := 1) rfl rfl, t.n1, l, .ins, rfl, hl, fun H2 v s2 hv => ?_⟩
      have S2 := S1.call s2
      refine ⟨a.w1, g2, v, rfl, rfl, S2.h1, lt (by omega), ?_⟩
      have S3 := S2.set1 (Paired.snoc S2.rr (hv.mono S1.made))
      refine ⟨_, rfl, a.sh, _, a.dx, _, _, rfl, S3.ob, T.c_Sheet, T.no_Sheet_spots, sf_s, _, rfl, a.s, _, 1, _, rfl, rfl, SqL.of S3.hs, rfl, _, _, rfl, rfl, a.s, _, _, 1, rfl, rfl, S3.hs, rfl, k _ ⟨a, _, _, _, rfl, S3.setS t.n0 (t.n1 + 1)⟩⟩
end
end TwK

set_option Elab.async false
set_option linter.all false
set_option maxRecDepth 100000
set_option maxHeartbeats 2000000
set_option pp.deepTerms false
set_option pp.deepTerms.threshold 6
namespace TwK
open PySem PySem.Spec PyProof.Rows L2 SX
theorem zipR_len (L R : List Sd) : (zipR L R).length = max L.length R.length := by unfold zipR; simp
theorem zipR_at {L R : List Sd} {i : Nat} (h : i < max L.length R.length) : (zipR L R)[i]? = some ⟨L[i]?, R[i]?, true⟩ := by
  unfold zipR
  rw [List.getElem?_map, List.getElem?_range h]
  rfl
theorem rep_flat (k : Nat) : (List.replicate k [V.non]).flatten = List.replicate k V.non := by
  induction k with
  | zero => rfl
  | succ k ih => rw [List.replicate_succ, List.flatten_cons, ih, List.replicate_succ]; rfl
theorem pad_at {Z : Hp} {gl : List V} {L : List Sd} {k i : Nat} {x : V} (h : Paired (SideAt Z) gl L) (hx : (gl ++ List.replicate k V.non)[i]? = some x) : OSideAt Z x L[i]? := by
  by_cases hi : i < gl.length
  · rw [List.getElem?_append_left hi] at hx
    obtain ⟨y, hy, r⟩ := Paired.at_ h hx
    rw [hy]
    exact r
  · rw [List.getElem?_append_right (by omega), List.getElem?_replicate] at hx
    have e : L[i]? = none := List.getElem?_eq_none_iff.mpr (by rw [← Paired.length h]; omega)
    rw [e]
    split at hx
    · exact (Option.some.inj hx).symm
    · cases hx
section
variable {K : PySem.W.Frag} {H0 H : Hp} {a : ShA} {t : ShS} {gr gl g2 : List V} {z : Addr} {o : HO}
theorem own_grow {L : List Addr} (hz : H z = none) : Same (Own H0 L H) (Own (upd H0 z o) L (upd H z o)) := fun b u e => by
  obtain ⟨e1, e2, e3⟩ := own_iff.mp e
  have n := ne_of_none e3 hz
  exact own_iff.mpr ⟨e1, by rw [upd_ne n]; exact e2, by rw [upd_ne n]; exact e3⟩
theorem own_shrink {L : List Addr} : Same (Own (upd H0 z o) L H) (Own H0 L H) := fun b u e => by
  obtain ⟨e1, e2, e3⟩ := own_iff.mp e
  exact own_iff.mpr ⟨e1, NdefX.upd_none e2, e3⟩
theorem Sh.grow (h : Sh K H0 H a t gr gl g2) (hz : H z = none) : Sh K (upd H0 z o) (upd H z o) a t gr gl g2 := by
  have m : Same H (upd H z o) := same_new hz
  refine ⟨fun b u e => ?_, fun b hb => ?_, m _ _ h.ob, m _ _ h.hr, m _ _ h.hs, m _ _ h.hw, m _ _ h.h0, m _ _ h.h1, h.dj, rows_mono h.rows (own_grow hz), sides_mono h.l (own_grow hz), sides_mono h.rr (own_grow hz)⟩
  · by_cases hb : b = z
    · subst hb
      rw [upd_same] at e ⊢
      exact e
    · rw [upd_ne hb] at e ⊢
      exact h.same _ _ e
  · obtain ⟨u, e⟩ := h.inL b hb
    rw [upd_ne (ne_of_none e hz)]
    exact h.fr b hb
theorem Sh.shrink (h : Sh K (upd H0 z o) H a t gr gl g2) (hz : H0 z = none) : Sh K H0 H a t gr gl g2 :=
  ⟨(same_new hz).trans h.same, fun b hb => NdefX.upd_none (h.fr b hb), h.ob, h.hr, h.hs, h.hw, h.h0, h.h1, h.dj, rows_mono h.rows own_shrink, sides_mono h.l own_shrink, sides_mono h.rr own_shrink⟩
end
section
variable {P : Program} {w : World} {K : PySem.W.Frag} {mg : Str → Option Value} {base : Heap}
theorem sc_lay : FnScope ["self", "left", "right", "many", "one", "other"] ["self"] (defScope sSLay) := ⟨rfl, rfl, rfl, by decide +kernel, rfl, by decide +kernel, by decide +kernel⟩
def spLay (K : PySem.W.Frag) : Sp := fun vs H Q _ => ∃ (H0 : Hp) (sh : Addr) (t : ShS), vs = [.ref sh] ∧ ShX K H0 H sh t ∧ t.Sm ∧ ∀ H' : Hp, ShX K H0 H' sh t.lay → Q .non H'
theorem ok_lay (T : TX K mg) : C8.Met P w K mg base 1 (He.ga K "Sheet") "lay" (spLay K) [] := by
  refine metN T.f_SLay T.c_Sheet T.me_Sheet_lay sc_lay (fun _ _ _ _ _ _ us hl => match us, hl with | [_], _ => rfl) (fun vs H Q E h => ?_) (fun cdv A outer s H vs Q E hr h => ?_)
  · obtain ⟨H0, sh, t, rfl, _⟩ := h
    rfl
  · obtain ⟨H0, sh, t, rfl, ⟨a, gr, gl, g2, rfl, S⟩, sm, k⟩ := h
    have nd := sc_lay.nd
    refine ⟨_, (pss_cons (ps_asg (pe_fld (pv 0) (by rfl)) (pg_lst (by rfl) (pgs_cons (pg_name (i := 1) nd rfl (.inl rfl)) (pgs_cons (pg_name (i := 2) nd rfl (.inl rfl)) pgs_nil))))
  (pss_cons (ps_set (i := 3) nd rfl (.inl rfl) (pe_callB (call_max2 rfl) (by rfl) T.n_max (by decide +kernel) (pa_cons (pe_callB call_len (by rfl) T.n_len PySem.boot_len (pa_cons (pv 1) pa_nil)) (pa_cons (pe_callB call_len (by rfl) T.n_len PySem.boot_len (pa_cons (pv 2) pa_nil)) pa_nil))))
  (pss_cons (ps_par (i := 1) (j := 2) (by rfl) nd rfl rfl (by decide) rfl rfl (pa_cons (pe_op op_cat (pv 1) (pe_op op_rep (pe_lst (pa_cons pe_non pa_nil)) (pe_op op_sub (pv 3) (pe_callB call_len (by rfl) T.n_len PySem.boot_len (pa_cons (pv 1) pa_nil))))) (pa_cons (pe_op op_cat (pv 2) (pe_op op_rep (pe_lst (pa_cons pe_non pa_nil)) (pe_op op_sub (pv 3) (pe_callB call_len (by rfl) T.n_len PySem.boot_len (pa_cons (pv 2) pa_nil))))) pa_nil)) (by rfl))
  (pss_cons (ps_expr (pe_bm PySem.F.plainAttrs_list PySem.F.slot_list_extend PySem.F.type_list_extend mt_extend (pe_fld (pv 0) (by rfl)) (pa_cons (pe_lc (own := [("one", 4), ("other", 5)]) (g := gTup K 2 (gCons (gName 4) (gCons (gName 5) gNil))) (by rfl) nd (pi_zip (by rfl) T.n_zip (pa_cons (pv 1) (pa_cons (pv 2) pa_nil))) (blkOk_by (own := [("one", 4), ("other", 5)]) (N := ["self", "left", "right", "many", "one", "other"]) (sc := defScope sSLay) (by decide +kernel)) (fun _ _ _ _ _ => (pg_tup (by rfl) (pgs_cons (pg_name (i := 4) nd rfl (.inl rfl)) (pgs_cons (pg_name (i := 5) nd rfl (.inl rfl)) pgs_nil)))) (fun _ _ _ _ _ => pts_nil) (fun _ _ _ _ _ => (pe_tup (pa_cons (pv 4) (pa_cons (pv 5) (pa_cons pe_bl pa_nil)))))) pa_nil)))
  (pss_one (ps_fld (pv 0) (pe_lst (pa_cons (pe_lst pa_nil) (pa_cons (pe_lst pa_nil) pa_nil))) rfl)))))), ?_⟩
    have line : ∀ {n : Nat}, n ≤ 5000 → n ≤ sizeLine := fun {n} h => by rw [sizeLine_eq]; omega
    have lt : ∀ {n : Nat}, n ≤ 5000 → n < sizeLine := fun {n} h => by rw [sizeLine_eq]; omega
    have l1 := sm.l
    have l2 := sm.rr
    have l3 := sm.r
    have q1 := Paired.length S.l
    have q2 := Paired.length S.rr
    have q3 := Paired.length S.rows
    refine ⟨_, rfl, a.sh, _, a.dx, _, _, rfl, S.ob, T.c_Sheet, T.no_Sheet_waiting, sf_w, a.w, _, rfl, SqL.of S.hw, rfl, _, _, rfl, _, _, rfl, rfl, ?_⟩
    refine ⟨_, rfl, _, gl.length, rfl, .inl ⟨_, SqL.of S.h0, rfl⟩, _, rfl, _, g2.length, rfl, .inl ⟨_, SqL.of S.h1, rfl⟩, _, _, rfl, ?_⟩
    obtain ⟨many, hm⟩ : ∃ many : Nat, many = max gl.length g2.length := ⟨_, rfl⟩
    have em : (if ((g2.length : Nat) : Int) > (gl.length : Int) then ((g2.length : Nat) : Int) else (gl.length : Int)) = (many : Int) := by
      rw [hm]
      split <;> omega
    rw [em]
    have m1 : gl.length ≤ many := by omega
    have m2 : g2.length ≤ many := by omega
    have k1 : ((many : Int) - (gl.length : Int)).toNat = many - gl.length := by omega
    have k2 : ((many : Int) - (g2.length : Int)).toNat = many - g2.length := by omega
    refine ⟨_, rfl, sl1, fun z1 hz1 => ?_⟩
    have S1 := S.call (same_new (o := .lst [.non]) hz1)
    refine ⟨_, rfl, _, rfl, _, gl.length, rfl, .inl ⟨_, SqL.of S1.h0, rfl⟩, _, _, rfl, rfl, z1, _, _, rfl, rfl, upd_same, by omega, by omega, by rw [k1]; exact line (by simp; omega), fun y1 hy1 => ?_⟩
    rw [k1, rep_flat]
    have S2 := S1.call (same_new (o := .lst (List.replicate (many - gl.length) .non)) hy1)
    refine ⟨a.w0, y1, gl, _, rfl, rfl, S2.h0, upd_same, line (by rw [List.length_replicate]; omega), fun p1 hp1 => ?_⟩
    have S3 := S2.call (same_new (o := .lst (gl ++ List.replicate (many - gl.length) .non)) hp1)
    refine ⟨_, rfl, sl1, fun z2 hz2 => ?_⟩
    have S4 := S3.call (same_new (o := .lst [.non]) hz2)
    refine ⟨_, rfl, _, rfl, _, g2.length, rfl, .inl ⟨_, SqL.of S4.h1, rfl⟩, _, _, rfl, rfl, z2, _, _, rfl, rfl, upd_same, by omega, by omega, by rw [k2]; exact line (by simp; omega), fun y2 hy2 => ?_⟩
    rw [k2, rep_flat]
    have S5 := S4.call (same_new (o := .lst (List.replicate (many - g2.length) .non)) hy2)
    refine ⟨a.w1, y2, g2, _, rfl, rfl, S5.h1, upd_same, line (by rw [List.length_replicate]; omega), fun p2 hp2 => ?_⟩
    have S6 := S5.call (same_new (o := .lst (g2 ++ List.replicate (many - g2.length) .non)) hp2)
    have hA1 := same_new (o := .lst (g2 ++ List.replicate (many - g2.length) .non)) hp2 _ _ (same_new (o := .lst (List.replicate (many - g2.length) .non)) hy2 _ _ (same_new (o := .lst [.non]) hz2 _ _ (upd_same (H := upd (upd H z1 (.lst [.non])) y1 (.lst (List.replicate (many - gl.length) .non))) (a := p1) (o := .lst (gl ++ List.replicate (many - gl.length) .non)))))
    revert S6 hA1
    generalize hHb : upd (upd (upd (upd (upd (upd H z1 (.lst [.non])) y1 (.lst (List.replicate (many - gl.length) .non))) p1 (.lst (gl ++ List.replicate (many - gl.length) .non))) z2 (.lst [.non])) y2 (.lst (List.replicate (many - g2.length) .non))) p2 (.lst (g2 ++ List.replicate (many - g2.length) .non)) = Hb
    intro S6 hA1
    have hA2 : Hb p2 = some (.lst (g2 ++ List.replicate (many - g2.length) .non)) := by rw [← hHb]; exact upd_same
    refine ⟨_, _, rfl, ?_⟩
    refine ⟨_, rfl, a.sh, _, a.dx, _, _, rfl, S6.ob, T.c_Sheet, T.no_Sheet_rows, sf_r, .inl ⟨rfl, _, SqL.of S6.hr⟩, _, rfl, _, rfl, p1, p2, _, _, rfl, SqL.of hA1, SqL.of hA2, fun D hD => ?_⟩
    have la1 : (gl ++ List.replicate (many - gl.length) V.non).length = many := by rw [List.length_append, List.length_replicate]; omega
    have la2 : (g2 ++ List.replicate (many - g2.length) V.non).length = many := by rw [List.length_append, List.length_replicate]; omega
    have zl : (zipR t.L t.R).length = many := by rw [zipR_len, ← q1, ← q2, hm]
    have gD : Same (Own H0 a.L Hb) (Own H0 (D :: a.L) Hb) := own_re fun b hb => (List.mem_cons.mp hb).elim (fun e => .inr (by rw [e]; exact hD)) fun e => .inl e
    refine lc_gen (n := many) (fun i H2 => ∃ gs, Bld Hb H2 D gs ∧ Paired (RowAt (Own H0 (D :: a.L) H2)) gs ((zipR t.L t.R).take i)) ⟨[], Bld.start (Same.refl _) hD, .nil⟩ ?_ ?_ ?_ ?_
    · rintro H2 ⟨gs, B, _⟩
      exact ⟨_, _, SqL.of (B.same _ _ hA1), SqL.of (B.same _ _ hA2), .inl (by rw [la1]; exact Nat.le_refl _)⟩
    · rintro i H2 hi ⟨gs, B, _⟩
      exact ⟨_, _, _, _, SqL.of (B.same _ _ hA1), SqL.of (B.same _ _ hA2), List.getElem?_eq_getElem (by rw [la1]; exact hi), List.getElem?_eq_getElem (by rw [la2]; exact hi)⟩
    · rintro i v H2 H3 hi ⟨gs, B, hP⟩ ⟨T0, x, y, rfl, hT0, rfl, hx, hy⟩
      have hx := hx _ (SqL.of (B.same _ _ hA1))
      have hy := hy _ (SqL.of (B.same _ _ hA2))
      have gl3 := Paired.length hP
      rw [List.length_take] at gl3
      refine ⟨T0, _, rfl, SqT.of upd_same, rfl, _, _, rfl, _, _, rfl, rfl, rfl, _, rfl, _, rfl, sl3, fun p hp => ?_⟩
      have B1 := (B.new (o := .tup [x, y]) hT0).new (o := .tup [x, y, .bl true]) hp
      refine ⟨gs, B1.at_, lt (by omega), gs ++ [.ref p], B1.push, ?_⟩
      rw [own_in (List.mem_cons_self ..), take_at (zipR_at (by rw [← q1, ← q2, ← hm]; exact hi))]
      have mv : Same (Own H0 (D :: a.L) H2) (Own H0 (D :: a.L) (upd (upd H2 T0 (.tup [x, y])) p (.tup [x, y, .bl true]))) := own_call ((same_new hT0).trans (same_new hp))
      have mw : Same (Own H0 a.L Hb) (Own H0 (D :: a.L) (upd (upd H2 T0 (.tup [x, y])) p (.tup [x, y, .bl true]))) := gD.trans (own_call B1.same)
      refine Paired.snoc (rows_mono hP mv) ⟨p, x, y, rfl, own_at (S6.same.free (B.same.free ((same_new hT0).free hp))) (fun e => ?_), (pad_at S6.l hx).mono mw, (pad_at S6.rr hy).mono mw⟩
      rcases List.mem_cons.mp e with e | e
      · rw [e, (B.new hT0).at_] at hp
        cases hp
      · obtain ⟨o, ho⟩ := S6.inL p e
        rw [(same_new hT0) _ _ (B.same _ _ ho)] at hp
        cases hp
    · rintro H2 ⟨gs, B, hP⟩
      rw [List.take_of_length_le (by rw [zl]; exact Nat.le_refl _)] at hP
      have gl3 := Paired.length hP
      have S7 := S6.call B.same
      refine ⟨a.r, D, gr, gs, rfl, rfl, S7.hr, B.at_, line (by omega), ?_⟩
      have S8 := S7.setR (Paired.app S7.rows (rows_mono hP (own_drop fun b hb => List.mem_cons_of_mem _ hb)))
      refine ⟨Nat.zero_le _, fun x0 n0 => ⟨Nat.zero_le _, fun x1 n1 => ⟨sl2, fun x nx => ⟨_, rfl, a.sh, _, a.dx, _, rfl, same_new nx _ _ (same_new n1 _ _ (same_new n0 _ _ S8.ob)), T.c_Sheet, T.no_Sheet_waiting, sf_len, ?_⟩⟩⟩⟩
      rw [sf_put_w]
      exact k _ ⟨{ a with w := x, w0 := x0, w1 := x1 }, _, _, _, rfl, S8.newW n0 n1 nx⟩
end
end TwK

set_option Elab.async false
set_option linter.all false
set_option maxRecDepth 100000
set_option maxHeartbeats 2000000
set_option pp.deepTerms false
set_option pp.deepTerms.threshold 6
namespace TwK
open PySem PySem.Spec PyProof.Rows L2 SX
theorem paired_empty {α β : Type} {F : α → β → Prop} {l : List α} {m : List β} (h : Paired F l m) : l.isEmpty = m.isEmpty := by
  cases h <;> rfl
section
variable {P : Program} {w : World} {K : PySem.W.Frag} {mg : Str → Option Value} {base : Heap}
theorem sc_putboth : FnScope ["self", "line", "line2", "codes", "left", "right"] ["self", "line", "line2", "codes"] (defScope sSPutBoth) := ⟨rfl, rfl, rfl, by decide +kernel, rfl, by decide +kernel, by decide +kernel⟩
def spPutBoth (K : PySem.W.Frag) : Sp := fun vs H Q _ => ∃ (H0 : Hp) (sh q : Addr) (t : ShS) (l l2 : Ln) (us : List V) (cs : List Code), vs = [.ref sh, tv l, tv l2, .ref q] ∧ ShX K H0 H sh t ∧ t.Sm ∧ t.lay.Sm ∧ SqL K H0 q us ∧ Paired (TupIs H0 Code.v) us cs ∧ cs.length ≤ 2000 ∧
  ∀ H' : Hp, ShX K H0 H' sh (t.both l l2 cs) → Q .non H'
theorem ok_putboth (T : TX K mg) (cl : C8.Met P w K mg base 1 (He.ga K "Sheet") "lay" (spLay K) []) (cs : C8.Cal P w K mg base 1 "spans_of" (spSpans K) []) : C8.Met P w K mg base 2 (He.ga K "Sheet") "put_both" (spPutBoth K) [] := by
  refine metN T.f_SPutBoth T.c_Sheet T.me_Sheet_put_both sc_putboth (fun _ _ _ _ _ _ us hl => match us, hl with | [_, _, _, _], _ => rfl) (fun vs H Q E h => ?_) (fun cdv A outer s H vs Q E hr h => ?_)
  · obtain ⟨H0, sh, q, t, l, l2, us, cs, rfl, _⟩ := h
    rfl
  · obtain ⟨H0, sh, q, t, l, l2, us, codes, rfl, X, sm, sm2, hq, hU, hcl, k⟩ := h
    obtain ⟨a0, _, _, _, e0, S0⟩ := id X
    subst e0
    have nd := sc_putboth.nd
    refine ⟨_, (pss_cons (ps_expr (C8.pe_mt0 cl hr (by decide) (pv 0)))
  (pss_cons (ps_par (i := 4) (j := 5) (by rfl) nd rfl rfl (by decide) rfl rfl (pa_cons (pe_tup (pa_cons (pe_ix ix_list (pe_fld (pv 0) (by rfl)) pe_int (fun _ _ => rfl)) (pa_cons (pv 1) (pa_cons (C8.pe_c cs hr (by decide) rfl (pa_cons (pv 3) (pa_cons pe_int pa_nil))) pa_nil)))) (pa_cons (pe_tup (pa_cons (pe_ix ix_list (pe_fld (pv 0) (by rfl)) pe_int (fun _ _ => rfl)) (pa_cons (pv 2) (pa_cons (C8.pe_c cs hr (by decide) rfl (pa_cons (pv 3) (pa_cons pe_int pa_nil))) pa_nil)))) pa_nil)) (by rfl))
  (pss_cons (ps_expr (pe_bm PySem.F.plainAttrs_list PySem.F.slot_list_append PySem.F.type_list_append mt_append (pe_fld (pv 0) (by rfl)) (pa_cons (pe_tup (pa_cons (pv 4) (pa_cons (pv 5) (pa_cons (pe_cmpR (op_neE hr.units0) (pv 3) (pe_lst pa_nil) (nomark _)) pa_nil)))) pa_nil)))
  (pss_one (ps_fld (pv 0) (pe_lst (pa_cons (pe_op op_add (pe_ix ix_list (pe_fld (pv 0) (by rfl)) pe_int (fun _ _ => rfl)) pe_int) (pa_cons (pe_op op_add (pe_ix ix_list (pe_fld (pv 0) (by rfl)) pe_int (fun _ _ => rfl)) pe_int) pa_nil))) rfl))))), ?_⟩
    have lt : ∀ {n : Nat}, n ≤ 5000 → n < sizeLine := fun {n} h => by rw [sizeLine_eq]; omega
    refine ⟨_, rfl, a0.sh, _, _, rfl, S0.ob, sf_no2, H0, a0.sh, t, rfl, X, sm, fun H1 X1 => ?_⟩
    obtain ⟨a, gr, gl, g2, ea, S⟩ := X1
    rw [← ea] at k
    rw [← ea]
    have l1 := sm2.r
    have q3 := Paired.length S.rows
    refine ⟨_, rfl, a.sh, _, a.dx, _, _, rfl, S.ob, T.c_Sheet, T.no_Sheet_spots, sf_s, a.s, _, _, iv t.n0, rfl, rfl, SqL.of S.hs, at_of (j := 0) rfl rfl, _, rfl, _, rfl, q, us, codes, _, 0, rfl, rfl, by decide, S.same.seq hq, tups_mono hU S.same, hcl, fun H2 p1 s2 hp1 => ?_⟩
    have S2 := S.call s2
    have hp1' : TupsAt (Own H0 a.L H2) Span.v p1 (spS 0 codes) := hp1.mono S.made
    refine ⟨sl3, fun t1 ht1 => ?_⟩
    have S3 := S2.call (same_new (o := .tup [iv t.n0, tv l, .ref p1]) ht1)
    refine ⟨_, rfl, a.sh, _, a.dx, _, _, rfl, S3.ob, T.c_Sheet, T.no_Sheet_spots, sf_s, a.s, _, _, iv t.n1, rfl, rfl, SqL.of S3.hs, at_of (j := 1) rfl rfl, _, rfl, _, rfl, q, us, codes, _, 1, rfl, rfl, by decide, S3.same.seq hq, tups_mono hU S3.same, hcl, fun H4 p2 s4 hp2 => ?_⟩
    have S4 := S3.call s4
    have hp2' : TupsAt (Own H0 a.L H4) Span.v p2 (spS 1 codes) := hp2.mono S3.made
    refine ⟨sl3, fun t2 ht2 => ⟨_, _, rfl, ?_⟩⟩
    have S5 := S4.call (same_new (o := .tup [iv t.n1, tv l2, .ref p2]) ht2)
    refine ⟨_, rfl, a.sh, _, a.dx, _, _, rfl, S5.ob, T.c_Sheet, T.no_Sheet_rows, sf_r, .inl ⟨rfl, _, SqL.of S5.hr⟩, _, rfl, _, rfl, _, rfl, Nat.zero_le _, fun z hz => ?_⟩
    have S6 := S5.call (same_new (o := .lst []) hz)
    refine ⟨q, z, us, rfl, rfl, S6.same.seq hq, upd_same, sl3, fun p hp => ?_⟩
    have S7 := S6.call (same_new (o := .tup [.ref t1, .ref t2, .bl (!us.isEmpty)]) hp)
    refine ⟨a.r, gr, .ref p, rfl, rfl, S7.hr, lt (by omega), ?_⟩
    have m6 := (same_new (o := .lst []) hz).trans (same_new (o := .tup [.ref t1, .ref t2, .bl (!us.isEmpty)]) hp)
    have m5 := (same_new (o := .tup [iv t.n1, tv l2, .ref p2]) ht2).trans m6
    have m4 := s4.trans m5
    have m3 := (same_new (o := .tup [iv t.n0, tv l, .ref p1]) ht1).trans m4
    have notL : ∀ {x : Addr} {H' : Hp}, Sh K H0 H' a t.lay gr gl g2 → H' x = none → x ∉ a.L := fun S hx e => by
      obtain ⟨o, ho⟩ := S.inL _ e
      rw [hx] at ho
      cases ho
    have hs1 : SideAt (Own H0 a.L (upd (upd (upd H4 t2 (.tup [iv t.n1, tv l2, .ref p2])) z (.lst [])) p (.tup [.ref t1, .ref t2, .bl (!us.isEmpty)]))) (.ref t1) ⟨t.n0, l, spS 0 codes⟩ :=
      ⟨t1, p1, rfl, own_call m4 _ _ (own_at (S2.same.free ht1) (notL S2 ht1)), hp1'.mono (own_call m3)⟩
    have hs2 : SideAt (Own H0 a.L (upd (upd (upd H4 t2 (.tup [iv t.n1, tv l2, .ref p2])) z (.lst [])) p (.tup [.ref t1, .ref t2, .bl (!us.isEmpty)]))) (.ref t2) ⟨t.n1, l2, spS 1 codes⟩ :=
      ⟨t2, p2, rfl, own_call m6 _ _ (own_at (S4.same.free ht2) (notL S4 ht2)), hp2'.mono (own_call m5)⟩
    have hrow : RowAt (Own H0 a.L (upd (upd (upd H4 t2 (.tup [iv t.n1, tv l2, .ref p2])) z (.lst [])) p (.tup [.ref t1, .ref t2, .bl (!us.isEmpty)]))) (.ref p) ⟨some ⟨t.n0, l, spS 0 codes⟩, some ⟨t.n1, l2, spS 1 codes⟩, !codes.isEmpty⟩ := by
      rw [paired_empty hU] at hs1 hs2 ⊢
      exact ⟨p, .ref t1, .ref t2, rfl, own_at (S6.same.free hp) (notL S6 hp), hs1, hs2⟩
    have S8 := S7.setR (Paired.snoc S7.rows hrow)
    refine ⟨_, rfl, a.sh, _, a.dx, _, _, rfl, S8.ob, T.c_Sheet, T.no_Sheet_spots, sf_s, a.s, _, _, iv t.n0, rfl, rfl, SqL.of S8.hs, at_of (j := 0) rfl rfl, _, _, rfl, rfl, _, rfl, a.sh, _, a.dx, _, _, rfl, S8.ob, T.c_Sheet, T.no_Sheet_spots, sf_s, a.s, _, _, iv t.n1, rfl, rfl, SqL.of S8.hs, at_of (j := 1) rfl rfl, _, _, rfl, rfl, sl2, fun s' hs' => ?_⟩
    refine ⟨_, rfl, a.sh, _, a.dx, _, rfl, same_new hs' _ _ S8.ob, T.c_Sheet, T.no_Sheet_spots, sf_len, ?_⟩
    rw [sf_put_s]
    exact k _ ⟨{ a with s := s' }, _, _, _, rfl, S8.newS (t.n0 + 1) (t.n1 + 1) hs'⟩
end
end TwK

set_option Elab.async false
set_option linter.all false
set_option maxRecDepth 100000
set_option maxHeartbeats 2000000
set_option pp.deepTerms false
set_option pp.deepTerms.threshold 6
namespace TwK
open PySem PySem.Spec PyProof.Rows L2 SX
def ShS.step (t : ShS) : Pc → ShS
  | .eq l => t.both l l []
  | .one l => t.put 0 l
  | .oth l => t.put 1 l
  | .pair l l2 cs => t.both l l2 cs
def shRun (ps : List Pc) : ShS := ps.foldl ShS.step ShS.new
def rowsOf (ps : List Pc) : List Rw := (shRun ps).lay.rows
theorem run_snoc (ps : List Pc) (p : Pc) : shRun (ps ++ [p]) = (shRun ps).step p := by unfold shRun; rw [List.foldl_append]; rfl
def ShS.m (t : ShS) : Nat := t.rows.length + t.L.length + t.R.length
theorem lay_m (t : ShS) : t.lay.m ≤ t.m := by
  show (t.rows ++ zipR t.L t.R).length + 0 + 0 ≤ _
  rw [List.length_append, zipR_len]
  unfold ShS.m
  omega
theorem step_m (t : ShS) (p : Pc) : (t.step p).m ≤ t.m + 1 ∧ (t.step p).n0 ≤ t.n0 + 1 ∧ (t.step p).n1 ≤ t.n1 + 1 := by
  have b : ∀ l l2 cs, (t.both l l2 cs).m ≤ t.m + 1 ∧ (t.both l l2 cs).n0 ≤ t.n0 + 1 ∧ (t.both l l2 cs).n1 ≤ t.n1 + 1 := fun l l2 cs => by
    refine ⟨?_, Nat.le_refl _, Nat.le_refl _⟩
    have q := lay_m t
    show (t.lay.rows ++ [_]).length + 0 + 0 ≤ t.m + 1
    have q2 : t.lay.rows.length + 0 + 0 ≤ t.m := q
    rw [List.length_append, List.length_singleton]
    omega
  have p0 : ∀ l, (t.put 0 l).m ≤ t.m + 1 ∧ (t.put 0 l).n0 ≤ t.n0 + 1 ∧ (t.put 0 l).n1 ≤ t.n1 + 1 := fun l => by
    refine ⟨?_, Nat.le_refl _, Nat.le_succ _⟩
    show t.rows.length + (t.L ++ [_]).length + t.R.length ≤ t.m + 1
    rw [List.length_append, List.length_singleton]
    unfold ShS.m
    omega
  have p1 : ∀ l, (t.put 1 l).m ≤ t.m + 1 ∧ (t.put 1 l).n0 ≤ t.n0 + 1 ∧ (t.put 1 l).n1 ≤ t.n1 + 1 := fun l => by
    refine ⟨?_, Nat.le_succ _, Nat.le_refl _⟩
    show t.rows.length + t.L.length + (t.R ++ [_]).length ≤ t.m + 1
    rw [List.length_append, List.length_singleton]
    unfold ShS.m
    omega
  cases p with
  | eq l => exact b l l []
  | one l => exact p0 l
  | oth l => exact p1 l
  | pair l l2 cs => exact b l l2 cs
theorem run_m (ps : List Pc) : (shRun ps).m ≤ ps.length ∧ (shRun ps).n0 ≤ ps.length ∧ (shRun ps).n1 ≤ ps.length := by
  have key : ∀ (ps : List Pc) (t : ShS), (ps.foldl ShS.step t).m ≤ t.m + ps.length ∧ (ps.foldl ShS.step t).n0 ≤ t.n0 + ps.length ∧ (ps.foldl ShS.step t).n1 ≤ t.n1 + ps.length := by
    intro ps
    induction ps with
    | nil => exact fun t => ⟨Nat.le_refl _, Nat.le_refl _, Nat.le_refl _⟩
    | cons p ps ih =>
      intro t
      obtain ⟨a1, a2, a3⟩ := ih (t.step p)
      obtain ⟨b1, b2, b3⟩ := step_m t p
      rw [List.foldl_cons, List.length_cons]
      exact ⟨by omega, by omega, by omega⟩
  obtain ⟨a1, a2, a3⟩ := key ps ShS.new
  have e : ShS.new.m = 0 := rfl
  have e2 : ShS.new.n0 = 0 := rfl
  have e3 : ShS.new.n1 = 0 := rfl
  unfold shRun
  exact ⟨by omega, by omega, by omega⟩
theorem sm_of {t : ShS} {n : Nat} (h : t.m ≤ n ∧ t.n0 ≤ n ∧ t.n1 ≤ n) (hn : n ≤ 1000) : t.Sm := by
  obtain ⟨h1, h2, h3⟩ := h
  unfold ShS.m at h1
  exact ⟨by omega, by omega, by omega, by omega, by omega⟩
theorem sm_lay {t : ShS} {n : Nat} (h : t.m ≤ n ∧ t.n0 ≤ n ∧ t.n1 ≤ n) (hn : n ≤ 1000) : t.lay.Sm := sm_of ⟨Nat.le_trans (lay_m t) h.1, h.2.1, h.2.2⟩ hn
section
variable {P : Program} {w : World} {K : PySem.W.Frag} {mg : Str → Option Value} {base : Heap}
structure MakS (P : Program) (w : World) (K : PySem.W.Frag) (mg : Str → Option Value) (base : Heap) : Prop where
  ex : ∃ (f : Addr) (fd : FuncData) (ps : List Str) (ds : List Value), Mk K (He.ga K "Sheet") f ∧ FnOk P w K mg base C8.CX0 1 f fd ps (spSInit K) ∧ mg "Sheet" = some (.ref (He.ga K "Sheet")) ∧ Binds K fd ps ds ∧ Vals [] ds
theorem mak_s (T : TX K mg) : MakS P w K mg base := by
  obtain ⟨fd, F⟩ := T.f_SInit
  exact ⟨_, fd, ["self"], [], T.mk_Sheet, ok_sinit T F, T.g_Sheet, FunD.bindsN F (fun _ _ _ _ _ _ us hl => match us, hl with | [_], _ => rfl), .nil⟩
theorem pe_mks {X : Cx} {j : Nat} {p pos : Pos} (c : MakS X.prog X.w X.K X.mg X.base) (hr : Room j X.A) (hk : 2 ≤ j) (hg : Gl X "Sheet") : PE X (.Call (.Name "Sheet" p) [] [] pos) (tMake (He.ga X.K "Sheet") (spSInit X.K) [] C8.E0 tNil) := by
  obtain ⟨f, fd, ps, ds, M, F, hm, b, d⟩ := c.ex
  exact pe_make0 M F (hr.mono hk) hg hm b d C8.pass0
theorem ShX.grow {H0 H : Hp} {sh z : Addr} {t : ShS} {o : HO} (h : ShX K H0 H sh t) (hz : H z = none) : ShX K (upd H0 z o) (upd H z o) sh t := by
  obtain ⟨a, gr, gl, g2, e, S⟩ := h
  exact ⟨a, gr, gl, g2, e, S.grow hz⟩
theorem ShX.shrink {H0 H : Hp} {sh z : Addr} {t : ShS} {o : HO} (h : ShX K (upd H0 z o) H sh t) (hz : H0 z = none) : ShX K H0 H sh t := by
  obtain ⟨a, gr, gl, g2, e, S⟩ := h
  exact ⟨a, gr, gl, g2, e, S.shrink hz⟩
theorem sc_pairsof : FnScope ["pieces", "sheet", "piece"] ["pieces"] (defScope sPairsOf) := ⟨rfl, rfl, rfl, by decide +kernel, rfl, by decide +kernel, by decide +kernel⟩
def RowsAt (Z : Hp) (r : Addr) (rows : List Rw) : Prop := ∃ gr, Z r = some (.lst gr) ∧ Paired (RowAt Z) gr rows
def spPairsOf (K : PySem.W.Frag) : Sp := fun vs H Q _ => ∃ (q : Addr) (us : List V) (ps : List Pc), vs = [.ref q] ∧ H q = some (.lst us) ∧ Paired (PieceAt H) us ps ∧ ps.length ≤ 200 ∧ (∀ p ∈ ps, p.Ok ∧ (∀ l ∈ p.l, l.length ≤ 1000) ∧ ∀ l ∈ p.r, l.length ≤ 1000) ∧
  ∀ (H' : Hp) (r : Addr), Same H H' → RowsAt (New H H') r (rowsOf ps) → Q (.ref r) H'
theorem ok_pairsof (T : TX K mg) (ms : MakS P w K mg base) (cpa : C8.Met P w K mg base 2 (He.ga K "Sheet") "put_alone" (spPutAlone K) []) (cb : C8.Met P w K mg base 2 (He.ga K "Sheet") "put_both" (spPutBoth K) []) (cl : C8.Met P w K mg base 1 (He.ga K "Sheet") "lay" (spLay K) []) : C8.Cal P w K mg base 3 "pairs_of" (spPairsOf K) [] := by
  refine calN T.f_PairsOf T.g_pairs_of sc_pairsof (fun _ _ _ _ _ _ us hl => match us, hl with | [_], _ => rfl) (fun vs H Q E h => ?_) (fun cdv A outer s H vs Q E hr h => ?_)
  · obtain ⟨q, us, ps, rfl, _⟩ := h
    rfl
  · obtain ⟨q, us, ps, rfl, hq, hP, hl, hok, k⟩ := h
    have nd := sc_pairsof.nd
    refine ⟨_, (pss_cons (ps_set (i := 1) nd rfl (.inl rfl) (pe_mks ms hr (by decide) (by rfl)))
  (C8.pss_cut (ps_for PassesOwn.never rfl (pi_list (pv 0)) (pg_name (i := 2) nd rfl (.inl rfl))
  (pss_one (ps_if (pt_cmpR op_eq (pe_ix ix_tup (pv 2) pe_int (fun _ _ => rfl)) pe_str (nomark _)) (pss_one (ps_expr (C8.pe_mt cb hr (by decide) (pv 1) (pa_cons (pe_ix ix_tup (pv 2) pe_int (fun _ _ => rfl)) (pa_cons (pe_ix ix_tup (pv 2) pe_int (fun _ _ => rfl)) (pa_cons (pe_ix ix_tup (pv 2) pe_int (fun _ _ => rfl)) pa_nil)))))) (pss_one (ps_if (pt_cmpR op_eq (pe_ix ix_tup (pv 2) pe_int (fun _ _ => rfl)) pe_str (nomark _)) (pss_one (ps_expr (C8.pe_mt cb hr (by decide) (pv 1) (pa_cons (pe_ix ix_tup (pv 2) pe_int (fun _ _ => rfl)) (pa_cons (pe_ix ix_tup (pv 2) pe_int (fun _ _ => rfl)) (pa_cons (pe_lst pa_nil) pa_nil)))))) (pss_one (ps_expr (C8.pe_mt cpa hr (by decide) (pv 1) (pa_cons (pe_bm PySem.F.plainAttrs_list PySem.F.slot_list_index PySem.F.type_list_index mt_index (pe_lst (pa_cons pe_str (pa_cons pe_str pa_nil))) (pa_cons (pe_ix ix_tup (pv 2) pe_int (fun _ _ => rfl)) pa_nil)) (pa_cons (pe_ix ix_tup (pv 2) pe_int (fun _ _ => rfl)) pa_nil))))))))))
  (pss_cons (ps_expr (C8.pe_mt0 cl hr (by decide) (pv 1)))
  (pss_one (ps_ret (pe_fld (pv 1) (by rfl))))))), ?_⟩
    refine fun sh dx nsh ndx nn => ?_
    have s0 : Same H (upd (upd H dx (.own sh)) sh (.ins (He.ga K "Sheet") dx [])) := made_same0 nsh ndx
    refine ⟨H, sh, dx, rfl, s0, nsh, upd_same, fun H1 X1 => ⟨rfl, ?_⟩⟩
    refine ⟨fun σ H' => ∃ u2, σ = [some (.ref q), some (.ref sh), u2] ∧ ShX K H H' sh (shRun ps), ?_, ?_⟩
    · obtain ⟨_, _, _, _, _, S1⟩ := id X1
      refine ⟨_, rfl, q, rfl, ⟨_, SqL.of (S1.same _ _ hq)⟩, for_list (K := K) (a := q) (xs := us) (fun i σ H' => ∃ u2, σ = [some (.ref q), some (.ref sh), u2] ∧ ShX K H H' sh (shRun (ps.take i))) ⟨_, rfl, X1⟩ (fun i σ H' _ ⟨_, _, ⟨_, _, _, _, _, S⟩⟩ => SqL.of (S.same _ _ hq)) ?_ ?_⟩
      · rintro i x σ H' hx ⟨u2, rfl, X⟩
        obtain ⟨p, hp, hpt⟩ := Paired.at_ hP hx
        obtain ⟨pok, pl, pr⟩ := hok p (List.mem_of_getElem? hp)
        obtain ⟨a, gr, gl, g2, ea, S⟩ := id X
        subst ea
        have rm := run_m (ps.take i)
        have il : (ps.take i).length ≤ 200 := by
          rw [List.length_take]
          omega
        have sm := sm_of rm (by omega)
        have sm2 := sm_lay rm (by omega)
        have hsnoc : shRun (ps.take (i + 1)) = (shRun (ps.take i)).step p := by rw [take_at hp, run_snoc]
        cases p with
        | pair l l2 cs =>
          obtain ⟨T0, qc, rfl, hT, usc, hqc, hU⟩ := hpt
          have hT' : SqT K H' T0 [.str "pair", tv l, tv l2, .ref qc] := SqT.of (S.same _ _ hT)
          refine ⟨_, rfl, T0, _, _, _, rfl, rfl, hT', at_of (j := 0) rfl rfl, rfl, _, rfl, iteD (fun _ => ?_) fun ne => absurd rfl ne⟩
          refine ⟨_, rfl, a.sh, _, _, rfl, S.ob, sf_no3, _, rfl, T0, _, _, _, rfl, rfl, hT', at_of (j := 1) rfl rfl, _, rfl, T0, _, _, _, rfl, rfl, hT', at_of (j := 2) rfl rfl, _, rfl, T0, _, _, _, rfl, rfl, hT', at_of (j := 3) rfl rfl,
            H, a.sh, qc, _, l, l2, usc, cs, rfl, X, sm, sm2, SqL.of hqc, hU, pok.2, fun H2 X2 => ⟨_, rfl, ?_⟩⟩
          rw [hsnoc]
          exact X2
        | eq l =>
          obtain ⟨T0, rfl, hT⟩ := hpt
          have hT' : SqT K H' T0 [.str Wd.eq.s, tv l] := SqT.of (S.same _ _ hT)
          refine ⟨_, rfl, T0, _, _, _, rfl, rfl, hT', at_of (j := 0) rfl rfl, rfl, _, rfl, iteD (fun e => absurd e (by decide +kernel)) fun _ => ?_⟩
          refine ⟨_, rfl, T0, _, _, _, rfl, rfl, hT', at_of (j := 0) rfl rfl, rfl, _, rfl, iteD (fun _ => ?_) fun ne => absurd rfl ne⟩
          refine ⟨_, rfl, a.sh, _, _, rfl, S.ob, sf_no3, _, rfl, T0, _, _, _, rfl, rfl, hT', at_of (j := 1) rfl rfl, _, rfl, T0, _, _, _, rfl, rfl, hT', at_of (j := 1) rfl rfl, Nat.zero_le _, fun z hz => ?_⟩
          have hz0 := S.same.free hz
          refine ⟨upd H z (.lst []), a.sh, z, _, l, l, [], [], rfl, X.grow hz, sm, sm2, SqL.of upd_same, .nil, Nat.zero_le _, fun H2 X2 => ⟨_, rfl, ?_⟩⟩
          rw [hsnoc]
          exact X2.shrink hz0
        | one l =>
          obtain ⟨T0, rfl, hT⟩ := hpt
          have hT' : SqT K H' T0 [.str "one", tv l] := SqT.of (S.same _ _ hT)
          refine ⟨_, rfl, T0, _, _, _, rfl, rfl, hT', at_of (j := 0) rfl rfl, rfl, _, rfl, iteD (fun e => absurd e (by decide +kernel)) fun _ => ?_⟩
          refine ⟨_, rfl, T0, _, _, _, rfl, rfl, hT', at_of (j := 0) rfl rfl, rfl, _, rfl, iteD (fun e => absurd e (by decide +kernel)) fun _ => ?_⟩
          refine ⟨_, rfl, a.sh, _, _, rfl, S.ob, sf_no1, sl2, fun z hz => ?_⟩
          have S2 := S.call (same_new (o := .lst [.str "one", .str "other"]) hz)
          have hT2 : SqT K (upd H' z (.lst [.str "one", .str "other"])) T0 [.str "one", tv l] := SqT.of (S2.same _ _ hT)
          refine ⟨.inl ⟨rfl, _, SqL.of upd_same⟩, _, rfl, T0, _, _, _, rfl, rfl, hT2, at_of (j := 0) rfl rfl, z, _, .str "one", 0, _, rfl, rfl, SqL.of upd_same, rfl, rfl, rfl, by kernel_rfl, fun m z' hm => absurd hm (Nat.not_lt_zero _), ?_⟩
          refine ⟨_, rfl, T0, _, _, _, rfl, rfl, hT2, at_of (j := 1) rfl rfl, H, a.sh, _, _, 0, l, rfl, rfl, by decide, ⟨a, _, _, _, rfl, S2⟩, sm, pl l (List.mem_singleton.mpr rfl), fun H2 X2 => ⟨_, rfl, ?_⟩⟩
          rw [hsnoc]
          exact X2
        | oth l =>
          obtain ⟨T0, rfl, hT⟩ := hpt
          have hT' : SqT K H' T0 [.str "other", tv l] := SqT.of (S.same _ _ hT)
          refine ⟨_, rfl, T0, _, _, _, rfl, rfl, hT', at_of (j := 0) rfl rfl, rfl, _, rfl, iteD (fun e => absurd e (by decide +kernel)) fun _ => ?_⟩
          refine ⟨_, rfl, T0, _, _, _, rfl, rfl, hT', at_of (j := 0) rfl rfl, rfl, _, rfl, iteD (fun e => absurd e (by decide +kernel)) fun _ => ?_⟩
          refine ⟨_, rfl, a.sh, _, _, rfl, S.ob, sf_no1, sl2, fun z hz => ?_⟩
          have S2 := S.call (same_new (o := .lst [.str "one", .str "other"]) hz)
          have hT2 : SqT K (upd H' z (.lst [.str "one", .str "other"])) T0 [.str "other", tv l] := SqT.of (S2.same _ _ hT)
          refine ⟨.inl ⟨rfl, _, SqL.of upd_same⟩, _, rfl, T0, _, _, _, rfl, rfl, hT2, at_of (j := 0) rfl rfl, z, _, .str "other", 1, _, rfl, rfl, SqL.of upd_same, rfl, rfl, rfl, by kernel_rfl, fun m z' hm hz' => ?_, ?_⟩
          · have e : m = 0 := by omega
            subst e
            have e2 : V.str "one" = z' := Option.some.inj hz'
            subst e2
            kernel_rfl
          refine ⟨_, rfl, T0, _, _, _, rfl, rfl, hT2, at_of (j := 1) rfl rfl, H, a.sh, _, _, 1, l, rfl, rfl, by decide, ⟨a, _, _, _, rfl, S2⟩, sm, pr l (List.mem_singleton.mpr rfl), fun H2 X2 => ⟨_, rfl, ?_⟩⟩
          rw [hsnoc]
          exact X2
      · rintro σ H' ⟨u2, rfl, X⟩
        rw [Paired.length hP, List.take_length] at X
        exact ⟨_, rfl, X⟩
    · rintro σ H' ⟨u2, rfl, X⟩
      obtain ⟨a, gr, gl, g2, ea, S⟩ := id X
      subst ea
      refine ⟨_, rfl, a.sh, _, _, rfl, S.ob, sf_no2, H, a.sh, _, rfl, X, sm_of (run_m ps) (by omega), fun H2 X2 => ?_⟩
      obtain ⟨a2, gr2, gl2, g22, ea2, S2⟩ := X2
      rw [← ea2]
      refine ⟨_, rfl, a2.sh, _, a2.dx, _, _, rfl, S2.ob, T.c_Sheet, T.no_Sheet_rows, sf_r, k H2 a2.r S2.same ⟨gr2, own_iff.mpr ⟨by simp, S2.fr _ (memr a2), S2.hr⟩, rows_mono S2.rows (own_drop fun b hb => nomatch hb)⟩⟩
end
end TwK

set_option Elab.async false
set_option linter.all false
set_option maxRecDepth 100000
set_option maxHeartbeats 2000000
set_option pp.deepTerms false
set_option pp.deepTerms.threshold 6
namespace TwK
open PySem PySem.Spec PyProof.Rows L2 SX
def rTupOf (K : PySem.W.Frag) : List V → Hp → VK → Prop := fun xs H Q => ∃ p ys, xs = [.ref p] ∧ ((SqL K H p ys ∧ ∀ l, H l = none → Q (.ref l) (upd H l (.tup ys))) ∨ (SqT K H p ys ∧ Q (.ref p) H))
section
variable {P : Program} {w : World} {K : PySem.W.Frag} {mg : Str → Option Value} {base : Heap}
theorem sc_freshside : FnScope ["placed", "span"] ["placed"] (defScope sFreshSide) := ⟨rfl, rfl, rfl, by decide +kernel, rfl, by decide +kernel, by decide +kernel⟩
def spFreshSide : Sp := fun vs H Q _ => ∃ (H0 : Hp) (v : V) (s : Option Sd), vs = [v] ∧ Same H0 H ∧ OSideAt (New H0 H) v s ∧ (∀ x, s = some x → x.sp.length ≤ 5000) ∧ ∀ (H' : Hp) (v' : V), Same H H' → OSideAt (New H0 H') v' s → Q v' H'
theorem ok_freshside (T : TX K mg) : C8.Cal P w K mg base 1 "fresh_side" spFreshSide [] := by
  refine calN T.f_FreshSide T.g_fresh_side sc_freshside (fun _ _ _ _ _ _ us hl => match us, hl with | [_], _ => rfl) (fun vs H Q E h => ?_) (fun cdv A outer s H vs Q E hr h => ?_)
  · obtain ⟨H0, v, s, rfl, _⟩ := h
    rfl
  · obtain ⟨H0, v, sd, rfl, sm, hs, hlen, k⟩ := h
    have nd := sc_freshside.nd
    refine ⟨_, (pss_one (ps_ret (pe_ifExp (pt_cmpR op_isN (pv 0) pe_non (nomark _)) pe_non (pe_tup (pa_cons (pe_ix ix_tup (pv 0) pe_int (fun _ _ => rfl)) (pa_cons (pe_ix ix_tup (pv 0) pe_int (fun _ _ => rfl)) (pa_cons (pe_lc (own := [("span", 1)]) (g := gName 1) (te := tCB (rTupOf K) (tCons (tVar 1) tNil)) (by rfl) nd (pi_list (pe_ix ix_tup (pv 0) pe_int (fun _ _ => rfl))) (blkOk_by (own := [("span", 1)]) (N := ["placed", "span"]) (sc := defScope sFreshSide) (by decide +kernel)) (fun _ _ _ _ _ => (pg_name (i := 1) nd rfl (.inl rfl))) (fun _ _ _ _ _ => pts_nil)
      (fun _ _ _ _ _ => (pe_callTy (r := rTupOf K) (by exact call_tuple_of) (by rfl) (by exact T.n_tuple) (by decide +kernel) (pa_cons (pv 1) pa_nil)))) pa_nil))))))), ?_⟩
    cases sd with
    | none =>
      have e : v = .non := hs
      subst e
      exact ⟨_, rfl, rfl, _, rfl, iteT (k H .non (Same.refl _) rfl)⟩
    | some sd =>
      obtain ⟨a, q, rfl, ha, us, hq, hU⟩ := hs
      have ha' : SqT K H a [iv sd.pl, tv sd.l, .ref q] := SqT.of (own_same _ _ ha)
      have hq' : H q = some (.lst us) := own_same _ _ hq
      refine ⟨_, rfl, rfl, _, rfl, iteF ⟨_, rfl, a, _, _, _, rfl, rfl, ha', at_of (j := 0) rfl rfl, _, rfl, a, _, _, _, rfl, rfl, ha', at_of (j := 1) rfl rfl, _, rfl, a, _, _, _, rfl, rfl, ha', at_of (j := 2) rfl rfl, q, rfl, ⟨_, SqL.of hq'⟩, fun D hD => ?_⟩⟩
      refine lc_list (K := K) (a := q) (xs := us) (fun i H2 => Bld H H2 D (us.take i)) (Bld.start (Same.refl _) hD) (fun i H2 _ B => SqL.of (B.same _ _ hq')) ?_ ?_
      · rintro i x H2 hx B
        obtain ⟨c, hc, t, rfl, ht⟩ := Paired.at_ hU hx
        have il : i < us.length := (List.getElem?_eq_some_iff.mp hx).1
        have ul : us.length ≤ 5000 := by rw [Paired.length hU]; exact hlen _ rfl
        refine ⟨rfl, _, rfl, t, c.v, rfl, .inr ⟨SqT.of (B.same _ _ (own_same _ _ ht)), ?_⟩⟩
        refine ⟨_, B.at_, by rw [List.length_take, sizeLine_eq]; omega, ?_⟩
        rw [take_at hx]
        exact B.push
      · rintro H2 B
        rw [List.take_length] at B
        refine ⟨sl3, fun p hp => k _ (.ref p) (B.same.trans (same_new hp)) ⟨p, D, rfl, own_at ((sm.trans B.same).free hp) (by simp), us, own_iff.mpr ⟨by simp, sm.free B.nf, same_new hp _ _ B.at_⟩, tups_mono hU (own_call (B.same.trans (same_new hp)))⟩⟩
theorem sc_freshrow : FnScope ["row"] ["row"] (defScope sFreshRow) := ⟨rfl, rfl, rfl, by decide +kernel, rfl, by decide +kernel, by decide +kernel⟩
def rowSm (r : Rw) : Prop := (∀ x, r.a = some x → x.sp.length ≤ 5000) ∧ ∀ x, r.b = some x → x.sp.length ≤ 5000
def spFreshRow : Sp := fun vs H Q _ => ∃ (H0 : Hp) (v : V) (r : Rw), vs = [v] ∧ Same H0 H ∧ RowAt (New H0 H) v r ∧ rowSm r ∧ ∀ (H' : Hp) (v' : V), Same H H' → RowAt (New H0 H') v' r → Q v' H'
theorem ok_freshrow (T : TX K mg) (cf : C8.Cal P w K mg base 1 "fresh_side" spFreshSide []) : C8.Cal P w K mg base 2 "fresh_row" spFreshRow [] := by
  refine calN T.f_FreshRow T.g_fresh_row sc_freshrow (fun _ _ _ _ _ _ us hl => match us, hl with | [_], _ => rfl) (fun vs H Q E h => ?_) (fun cdv A outer s H vs Q E hr h => ?_)
  · obtain ⟨H0, v, r, rfl, _⟩ := h
    rfl
  · obtain ⟨H0, v, r, rfl, sm, ⟨p, x, y, rfl, hp, hx, hy⟩, hsm, k⟩ := h
    refine ⟨_, (pss_one (ps_ret (pe_tup (pa_cons (C8.pe_c cf hr (by decide) rfl (pa_cons (pe_ix ix_tup (pv 0) pe_int (fun _ _ => rfl)) pa_nil)) (pa_cons (C8.pe_c cf hr (by decide) rfl (pa_cons (pe_ix ix_tup (pv 0) pe_int (fun _ _ => rfl)) pa_nil)) (pa_cons (pe_ix ix_tup (pv 0) pe_int (fun _ _ => rfl)) pa_nil)))))), ?_⟩
    have hp' : H p = some (.tup [x, y, .bl r.c]) := own_same _ _ hp
    refine ⟨_, rfl, p, _, _, _, rfl, rfl, SqT.of hp', at_of (j := 0) rfl rfl, H0, x, r.a, rfl, sm, hx, hsm.1, fun H1 x' s1 hx' => ?_⟩
    refine ⟨_, rfl, p, _, _, _, rfl, rfl, SqT.of (s1 _ _ hp'), at_of (j := 1) rfl rfl, H0, y, r.b, rfl, sm.trans s1, hy.mono (own_call s1), hsm.2, fun H2 y' s2 hy' => ?_⟩
    refine ⟨_, rfl, p, _, _, _, rfl, rfl, SqT.of (s2 _ _ (s1 _ _ hp')), at_of (j := 2) rfl rfl, sl3, fun q hq => k _ (.ref q) ((s1.trans s2).trans (same_new hq)) ⟨q, x', y', rfl, own_at ((sm.trans (s1.trans s2)).free hq) (by simp), hx'.mono (own_call (s2.trans (same_new hq))), hy'.mono (own_call (same_new hq))⟩⟩
theorem sc_short : FnScope ["rows", "n", "row", "found", "at", "other"] ["rows", "n"] (defScope sShortened) := ⟨rfl, rfl, rfl, by decide +kernel, rfl, by decide +kernel, by decide +kernel⟩
def spShort (K : PySem.W.Frag) : Sp := fun vs H Q _ => ∃ (H0 : Hp) (r : Addr) (rows : List Rw), vs = [.ref r, .non] ∧ Same H0 H ∧ RowsAt (New H0 H) r rows ∧ (∀ x ∈ rows, rowSm x) ∧ rows.length ≤ 1000 ∧ ∀ (H' : Hp) (r' : Addr), Same H H' → RowsAt (New H0 H') r' rows → Q (.ref r') H'
theorem ok_short (T : TX K mg) (cf : C8.Cal P w K mg base 2 "fresh_row" spFreshRow []) : C8.Cal P w K mg base 3 "shortened" (spShort K) [] := by
  refine calN T.f_Shortened T.g_shortened sc_short (fun _ _ _ _ _ _ us hl => match us, hl with | [_, _], _ => rfl) (fun vs H Q E h => ?_) (fun cdv A outer s H vs Q E hr h => ?_)
  · obtain ⟨H0, r, rows, rfl, _⟩ := h
    rfl
  · obtain ⟨H0, r, rows, rfl, sm, ⟨gr, hr0, hR⟩, hsm, hl, k⟩ := h
    have nd := sc_short.nd
    refine ⟨_, (pss_cons (ps_if (pt_cmpR op_isN (pv 1) pe_non (nomark _)) (pss_one (ps_ret (pe_lc (own := [("row", 2)]) (g := gName 2) (te := tCall spFreshRow [] C8.E0 (tCons (tVar 2) tNil)) (by rfl) nd (pi_list (pv 0)) (blkOk_by (own := [("row", 2)]) (N := ["rows", "n", "row", "found", "at", "other"]) (sc := defScope sShortened) (by decide +kernel)) (fun _ _ _ _ _ => (pg_name (i := 2) nd rfl (.inl rfl))) (fun _ _ _ _ _ => pts_nil) (fun _ _ _ _ _ => by exact (C8.pe_c cf hr (by decide) rfl (pa_cons (pv 2) pa_nil)))))) pss_nil) pss_never), ?_⟩
    have hr' : H r = some (.lst gr) := own_same _ _ hr0
    refine ⟨_, rfl, rfl, _, rfl, iteT ⟨_, rfl, r, rfl, ⟨_, SqL.of hr'⟩, fun D hD => ?_⟩⟩
    refine lc_list (K := K) (a := r) (xs := gr) (fun i H2 => ∃ gs, Bld H H2 D gs ∧ Paired (RowAt (Own H0 [D] H2)) gs (rows.take i)) ⟨[], Bld.start (Same.refl _) hD, .nil⟩ (fun i H2 _ ⟨_, B, _⟩ => SqL.of (B.same _ _ hr')) ?_ ?_
    · rintro i x H2 hx ⟨gs, B, hP⟩
      obtain ⟨c, hc, hxr⟩ := Paired.at_ hR hx
      have gl := Paired.length hP
      rw [List.length_take] at gl
      -- the rest, with the new list as one of the things known
      refine ⟨rfl, _, rfl, upd H0 D (.lst gs), x, c, rfl, fun b o e => ?_, ?_, hsm c (List.mem_of_getElem? hc), fun H3 v s3 hv => ⟨gs, s3 _ _ B.at_, by rw [sizeLine_eq]; omega, ?_⟩⟩
      · by_cases hb : b = D
        · subst hb
          rw [upd_same] at e
          rw [← e]
          exact B.at_
        · rw [upd_ne hb] at e
          exact B.same _ _ (sm _ _ e)
      · refine hxr.mono fun b o e => ?_
        obtain ⟨_, e2, e3⟩ := own_iff.mp e
        have n : b ≠ D := ne_of_none e3 B.nf
        exact own_iff.mpr ⟨by simp, by rw [upd_ne n]; exact e2, B.same _ _ e3⟩
      · have BD : Bld H0 H2 D gs := ⟨sm.trans B.same, sm.free B.nf, B.at_⟩
        refine ⟨gs ++ [v], (B.call s3).push, ?_⟩
        rw [take_at hc, (BD.call s3).push_own]
        refine Paired.snoc (rows_mono hP (own_call s3)) (hv.mono fun b o e => ?_)
        obtain ⟨_, e2, e3⟩ := own_iff.mp e
        refine own_iff.mpr ⟨fun z => ?_, NdefX.upd_none e2, e3⟩
        rw [List.mem_singleton.mp z, upd_same] at e2
        cases e2
    · rintro H2 ⟨gs, B, hP⟩
      rw [Paired.length hR, List.take_length] at hP
      exact k H2 D B.same ⟨gs, own_iff.mpr ⟨by simp, sm.free B.nf, B.at_⟩, rows_mono hP own_one⟩
structure MakD (P : Program) (w : World) (K : PySem.W.Frag) (mg : Str → Option Value) (base : Heap) : Prop where
  ex : ∃ (f : Addr) (fd : FuncData) (ps : List Str) (g : List Value → List Value → List Value), Mk K (He.ga K "Differ") f ∧ FnOk P w K mg base C8.CX0 1 f fd ps (spDInit K) ∧ mg "Differ" = some (.ref (He.ga K "Differ")) ∧ KBn K fd ps 1 ["line_junk", "sign_junk"] g (fun vs zs => vs ++ (zs ++ []))
theorem mak_d (T : TX K mg) : MakD P w K mg base := by
  obtain ⟨fd, F⟩ := T.f_DInit
  obtain ⟨mv, hb⟩ := FunD.kbinds0 (ps := ["self", "line_junk", "sign_junk"]) F 1 ["line_junk", "sign_junk"] [] (fun us mv ws => us ++ (ws ++ mv)) (by intro z; cases z) (fun q hq => nomatch hq) (fun r1 r2 r3 => r1.append (r3.append r2)) (fun D doc pm an cdv ct us mv ws h1 h2 h3 => match us, mv, ws, h1, h2, h3 with | [_], [], [_, _], _, _, _ => rfl)
  exact ⟨_, fd, _, _, T.mk_Differ, ok_dinit T F, T.g_Differ, hb⟩
theorem pe_mkd {X : Cx} {j : Nat} {p pos : Pos} {kws : List Keyword} {tk : TA} (c : MakD X.prog X.w X.K X.mg X.base) (hr : Room j X.A) (hk : 2 ≤ j) (hg : Gl X "Differ") (hkw : PK X kws tk)
    (hall : (backToKw pos (keywordEach kws X.env)).all (·.1.isSome) = true := by rfl) (hks : (backToKw pos (keywordEach kws X.env)).filterMap (·.1) = (["line_junk", "sign_junk"] : List Str) := by rfl)
    (hpl : ((backTo pos (starEach [] X.env)).any (·.1) || (backToKw pos (keywordEach kws X.env)).any (·.1.isNone)) = false := by rfl) :
    PE X (.Call (.Name "Differ" p) [] kws pos) (tMakeK (He.ga X.K "Differ") 0 2 (spDInit X.K) (fun vs zs => vs ++ (zs ++ [])) C8.E0 tNil tk) := by
  obtain ⟨f, fd, ps, g, M, F, hm, hb⟩ := c.ex
  exact pe_makeK0 M F (hr.mono hk) hg hm hb C8.pass0 hkw hall hks (by decide) hpl
/-! ### pairs -/
theorem sc_pairs : FnScope ["one", "other", "n", "line_junk", "sign_junk"] ["one", "other", "n", "line_junk", "sign_junk"] (defScope sPairs) := ⟨rfl, rfl, rfl, by decide +kernel, rfl, by decide +kernel, by decide +kernel⟩
def spPairs (K : PySem.W.Frag) : Sp := fun vs H Q _ => ∃ (a b : Addr) (xs ys : List Ln) (lj sj : V), vs = [.ref a, .ref b, .non, lj, sj] ∧ SqL K H a (xs.map tv) ∧ SqL K H b (ys.map tv) ∧ Tx xs ∧ Tx ys ∧ JArg H lj ∧ JArg H sj ∧
  ∀ (H' : Hp) (r : Addr) (ps : List Pc), Same H H' → PcsOk ps xs ys → RowsAt (New H H') r (rowsOf ps) → Q (.ref r) H'
theorem JArg.mono {H H' : Hp} {v : V} (h : JArg H v) (s : Same H H') : JArg H' v := by
  rcases h with e | e | ⟨f, d, bad, ls, e, L⟩
  · exact .inl e
  · exact .inr (.inl e)
  · exact .inr (.inr ⟨f, d, bad, ls, e, L.mono s⟩)
end
end TwK

set_option Elab.async false
set_option linter.all false
set_option maxRecDepth 100000
set_option maxHeartbeats 2000000
set_option pp.deepTerms false
set_option pp.deepTerms.threshold 6
namespace TwK
open PySem PySem.Spec PyProof.Rows L2 SX
/-! ### plain lists: what the rows keep -/
def okW (side : Nat) (w : Wd) : Prop := if side = 0 then w = .del ∨ w = .rep else w = .ins ∨ w = .rep
def SpOk (side n : Nat) : List Span → Nat → Prop
  | [], _ => True
  | s :: r, a => okW side s.w ∧ a ≤ s.lo ∧ s.lo < s.hi ∧ s.hi ≤ n ∧ SpOk side n r s.hi
theorem SpOk.le {side n : Nat} : ∀ {ss : List Span} {a b : Nat}, SpOk side n ss a → b ≤ a → SpOk side n ss b
  | [], _, _, _, _ => trivial
  | s :: r, a, b, h, hb => ⟨h.1, by have := h.2.1; omega, h.2.2.1, h.2.2.2.1, h.2.2.2.2⟩
def leftT (l : Ln) : List Span → Nat → Ln
  | [], a => l.drop a
  | s :: r, a => (l.drop a).take (s.lo - a) ++ leftT l r s.hi
structure SideOk (side : Nat) (s : Sd) : Prop where
  sp : SpOk side s.l.length s.sp 0
  len : s.sp.length ≤ 2000
def RowOk (r : Rw) : Prop := match r.a, r.b with
  | some a, some b => (r.c = false → a.l = b.l ∧ a.sp = [] ∧ b.sp = []) ∧ (a.sp = [] → b.sp = [] → a.l = b.l) ∧ ((a.sp = [⟨.del, 0, a.l.length⟩] ∧ b.sp = [⟨.ins, 0, b.l.length⟩]) ∨ leftT a.l a.sp 0 = leftT b.l b.sp 0)
  | _, _ => r.c = true
def key (s : Sd) : Nat × Ln := (s.pl, s.l)
def enumF (n : Nat) : List Ln → List (Nat × Ln)
  | [] => []
  | x :: xs => (n, x) :: enumF (n + 1) xs
theorem enumF_snoc (n : Nat) (xs : List Ln) (x : Ln) : enumF n (xs ++ [x]) = enumF n xs ++ [(n + xs.length, x)] := by
  induction xs generalizing n with
  | nil => rfl
  | cons y ys ih =>
    rw [List.cons_append, enumF, enumF, ih, List.cons_append, List.length_cons, show n + 1 + ys.length = n + (ys.length + 1) by omega]
theorem enumF_at (n : Nat) (xs : List Ln) (i : Nat) : (enumF n xs)[i]? = (xs[i]?).map fun x => (n + i, x) := by
  induction xs generalizing n i with
  | nil => simp [enumF]
  | cons y ys ih =>
    cases i with
    | zero => simp [enumF]
    | succ i =>
      rw [enumF, List.getElem?_cons_succ, List.getElem?_cons_succ, ih, show n + 1 + i = n + (i + 1) by omega]
theorem enumF_len (n : Nat) (xs : List Ln) : (enumF n xs).length = xs.length := by
  induction xs generalizing n with
  | nil => rfl
  | cons y ys ih => rw [enumF, List.length_cons, List.length_cons, ih]
def lefts (rows : List Rw) : List Sd := rows.filterMap (·.a)
def rights (rows : List Rw) : List Sd := rows.filterMap (·.b)
structure TI (t : ShS) (xs ys : List Ln) : Prop where
  n0 : t.n0 = xs.length
  n1 : t.n1 = ys.length
  e0 : (lefts t.rows ++ t.L).map key = enumF 0 xs
  e1 : (rights t.rows ++ t.R).map key = enumF 0 ys
  so : ∀ r ∈ t.rows, (∀ a, r.a = some a → SideOk 0 a) ∧ ∀ b, r.b = some b → SideOk 1 b
  l : ∀ s ∈ t.L, SideOk 0 s ∧ s.sp = [⟨.del, 0, s.l.length⟩]
  r : ∀ s ∈ t.R, SideOk 1 s ∧ s.sp = [⟨.ins, 0, s.l.length⟩]
  ro : ∀ r ∈ t.rows, RowOk r
theorem TI.new : TI ShS.new [] [] := ⟨rfl, rfl, rfl, rfl, fun r h => (nomatch h), fun r h => (nomatch h), fun r h => (nomatch h), fun r h => (nomatch h)⟩
theorem TI.put0 {t : ShS} {xs ys : List Ln} {l : Ln} (h : TI t xs ys) (hl : l ≠ []) : TI (t.put 0 l) (xs ++ [l]) ys := by
  have hp : 0 < l.length := List.length_pos_iff.mpr hl
  refine ⟨?_, h.n1, ?_, h.e1, h.so, fun s hs => ?_, h.r, h.ro⟩
  · show t.n0 + 1 = _
    rw [h.n0, List.length_append]
    rfl
  · show (lefts t.rows ++ (t.L ++ [(⟨t.n0, l, [⟨.del, 0, l.length⟩]⟩ : Sd)])).map key = _
    rw [← List.append_assoc, List.map_append, h.e0, enumF_snoc, h.n0, Nat.zero_add]
    rfl
  · rcases List.mem_append.mp (show s ∈ t.L ++ [(⟨t.n0, l, [⟨.del, 0, l.length⟩]⟩ : Sd)] from hs) with q | q
    · exact h.l s q
    · rw [List.mem_singleton.mp q]
      exact ⟨⟨⟨.inl rfl, Nat.le_refl _, hp, Nat.le_refl _, trivial⟩, by show 1 ≤ 2000; decide⟩, rfl⟩
theorem TI.put1 {t : ShS} {xs ys : List Ln} {l : Ln} (h : TI t xs ys) (hl : l ≠ []) : TI (t.put 1 l) xs (ys ++ [l]) := by
  have hp : 0 < l.length := List.length_pos_iff.mpr hl
  refine ⟨h.n0, ?_, h.e0, ?_, h.so, h.l, fun s hs => ?_, h.ro⟩
  · show t.n1 + 1 = _
    rw [h.n1, List.length_append]
    rfl
  · show (rights t.rows ++ (t.R ++ [(⟨t.n1, l, [⟨.ins, 0, l.length⟩]⟩ : Sd)])).map key = _
    rw [← List.append_assoc, List.map_append, h.e1, enumF_snoc, h.n1, Nat.zero_add]
    rfl
  · rcases List.mem_append.mp (show s ∈ t.R ++ [(⟨t.n1, l, [⟨.ins, 0, l.length⟩]⟩ : Sd)] from hs) with q | q
    · exact h.r s q
    · rw [List.mem_singleton.mp q]
      exact ⟨⟨⟨.inl rfl, Nat.le_refl _, hp, Nat.le_refl _, trivial⟩, by show 1 ≤ 2000; decide⟩, rfl⟩
theorem range_pick {L : List Sd} : ∀ {n : Nat}, L.length ≤ n → (List.range n).filterMap (fun i => L[i]?) = L := by
  intro n hn
  induction n generalizing L with
  | zero =>
    have e : L = [] := List.length_eq_zero_iff.mp (by omega)
    rw [e]
    rfl
  | succ n ih =>
    rw [List.range_succ_eq_map, List.filterMap_cons, List.filterMap_map]
    cases L with
    | nil =>
      have e := ih (L := []) (Nat.zero_le _)
      simp
    | cons x L =>
      have e := ih (L := L) (by simpa using hn)
      rw [List.getElem?_cons_zero]
      show x :: (List.range n).filterMap ((fun i => (x :: L)[i]?) ∘ Nat.succ) = x :: L
      have e2 : ((fun i => (x :: L)[i]?) ∘ Nat.succ) = fun i => L[i]? := by
        funext i
        simp
      rw [e2, e]
theorem lefts_zip (L R : List Sd) : lefts (zipR L R) = L := by
  unfold lefts zipR
  rw [List.filterMap_map]
  exact range_pick (by omega)
theorem rights_zip (L R : List Sd) : rights (zipR L R) = R := by
  unfold rights zipR
  rw [List.filterMap_map]
  exact range_pick (by omega)
theorem TI.lay {t : ShS} {xs ys : List Ln} (h : TI t xs ys) : TI t.lay xs ys := by
  have mem : ∀ r ∈ zipR t.L t.R, (∀ a, r.a = some a → a ∈ t.L) ∧ (∀ b, r.b = some b → b ∈ t.R) ∧ r.c = true := fun r hr => by
    unfold zipR at hr
    obtain ⟨i, _, rfl⟩ := List.mem_map.mp hr
    exact ⟨fun a e => List.mem_of_getElem? e, fun b e => List.mem_of_getElem? e, rfl⟩
  refine ⟨h.n0, h.n1, ?_, ?_, fun r hr => ?_, fun s hs => (nomatch hs), fun s hs => (nomatch hs), fun r hr => ?_⟩
  · show (lefts (t.rows ++ zipR t.L t.R) ++ []).map key = _
    rw [List.append_nil]
    have e : lefts (t.rows ++ zipR t.L t.R) = lefts t.rows ++ t.L := by
      unfold lefts
      rw [List.filterMap_append]
      exact congrArg _ (lefts_zip t.L t.R)
    rw [e, h.e0]
  · show (rights (t.rows ++ zipR t.L t.R) ++ []).map key = _
    rw [List.append_nil]
    have e : rights (t.rows ++ zipR t.L t.R) = rights t.rows ++ t.R := by
      unfold rights
      rw [List.filterMap_append]
      exact congrArg _ (rights_zip t.L t.R)
    rw [e, h.e1]
  · rcases List.mem_append.mp (show r ∈ t.rows ++ zipR t.L t.R from hr) with q | q
    · exact h.so r q
    · obtain ⟨m1, m2, _⟩ := mem r q
      exact ⟨fun a e => (h.l a (m1 a e)).1, fun b e => (h.r b (m2 b e)).1⟩
  · rcases List.mem_append.mp (show r ∈ t.rows ++ zipR t.L t.R from hr) with q | q
    · exact h.ro r q
    · obtain ⟨m1, m2, hc⟩ := mem r q
      obtain ⟨a, b, c⟩ := r
      have hc : c = true := hc
      subst hc
      cases a with
      | none => rfl
      | some a =>
        cases b with
        | none => rfl
        | some b =>
          have ea := (h.l a (m1 a rfl)).2
          have eb := (h.r b (m2 b rfl)).2
          exact ⟨fun z => (nomatch z), fun z => absurd (ea.symm.trans z) (by simp), .inl ⟨ea, eb⟩⟩
/-! ### spans out of codes -/
theorem ch_at {l l2 : Ln} {i j : Nat} (h : (ch l)[i]? = (ch l2)[j]?) : l[i]? = l2[j]? := by
  rw [List.getElem?_map, List.getElem?_map] at h
  cases e : l[i]? with
  | none =>
    rw [e] at h
    cases e2 : l2[j]? with
    | none => rfl
    | some y => rw [e2] at h; cases h
  | some x =>
    rw [e] at h
    cases e2 : l2[j]? with
    | none => rw [e2] at h; cases h
    | some y =>
      rw [e2] at h
      have q : [x] = [y] := Option.some.inj h
      injection q with q
      rw [q]
theorem spS_cons (side : Nat) (c : Code) (cs : List Code) : spS side (c :: cs) = if keepS side c.w = true then ⟨c.w, c.lo side, c.hi side⟩ :: spS side cs else spS side cs := by
  unfold spS
  rw [List.filter_cons]
  split <;> rfl
theorem sp_ok {l l2 : Ln} : ∀ {cs : List Code} {i j a a2 : Nat}, Lead (ch l) (ch l2) cs i j l.length l2.length → a ≤ i → a2 ≤ j → SpOk 0 l.length (spS 0 cs) a ∧ SpOk 1 l2.length (spS 1 cs) a2
  | [], i, j, a, a2, _, _, _ => ⟨trivial, trivial⟩
  | c :: cs, i, j, a, a2, h, h1, h2 => by
    obtain ⟨e1, e2, ⟨o1, o2, o3⟩, hL⟩ := h
    subst e1 e2
    rw [List.length_map] at o1 o2
    rw [spS_cons, spS_cons]
    cases hw : c.w with
    | rep =>
      rw [hw] at o3
      obtain ⟨g1, g2⟩ := sp_ok hL (Nat.le_refl _) (Nat.le_refl _)
      exact ⟨⟨.inr rfl, h1, o3.1, o1, g1⟩, ⟨.inr rfl, h2, o3.2, o2, g2⟩⟩
    | del =>
      rw [hw] at o3
      have o4 : c.j = c.j2 := o3.2
      obtain ⟨g1, g2⟩ := sp_ok (a2 := a2) hL (Nat.le_refl _) (by omega)
      exact ⟨⟨.inl rfl, h1, o3.1, o1, g1⟩, g2⟩
    | ins =>
      rw [hw] at o3
      have o4 : c.i = c.i2 := o3.1
      obtain ⟨g1, g2⟩ := sp_ok (a := a) hL (by omega) (Nat.le_refl _)
      exact ⟨g1, ⟨.inl rfl, h2, o3.2, o2, g2⟩⟩
    | eq =>
      rw [hw] at o3
      have p1 : c.i < c.i2 := o3.1
      have p2 : c.j < c.j2 := o3.2.2.1
      exact sp_ok hL (by omega) (by omega)
theorem take_ext {l : Ln} {a i i2 : Nat} (h : a ≤ i) (h2 : i ≤ i2) : (l.drop a).take (i2 - a) = (l.drop a).take (i - a) ++ (l.drop i).take (i2 - i) := by
  have e : i2 - a = (i - a) + (i2 - i) := by omega
  rw [e, List.take_add, List.drop_drop, show a + (i - a) = i by omega]
theorem left_eq {l l2 : Ln} : ∀ {cs : List Code} {i j a a2 : Nat} {A B : Ln}, Lead (ch l) (ch l2) cs i j l.length l2.length → a ≤ i → a2 ≤ j → A ++ (l.drop a).take (i - a) = B ++ (l2.drop a2).take (j - a2) →
    A ++ leftT l (spS 0 cs) a = B ++ leftT l2 (spS 1 cs) a2
  | [], i, j, a, a2, A, B, h, h1, h2, e => by
    obtain ⟨e1, e2⟩ := h
    subst e1 e2
    rw [List.take_of_length_le (by rw [List.length_drop]; exact Nat.le_refl _), List.take_of_length_le (by rw [List.length_drop]; exact Nat.le_refl _)] at e
    exact e
  | c :: cs, i, j, a, a2, A, B, h, h1, h2, e => by
    obtain ⟨e1, e2, ⟨o1, o2, o3⟩, hL⟩ := h
    subst e1 e2
    rw [spS_cons, spS_cons]
    cases hw : c.w with
    | rep =>
      show A ++ ((l.drop a).take (c.i - a) ++ leftT l (spS 0 cs) c.i2) = B ++ ((l2.drop a2).take (c.j - a2) ++ leftT l2 (spS 1 cs) c.j2)
      rw [← List.append_assoc, ← List.append_assoc]
      exact left_eq hL (Nat.le_refl _) (Nat.le_refl _) (by rw [Nat.sub_self, Nat.sub_self, List.take_zero, List.take_zero, List.append_nil, List.append_nil]; exact e)
    | del =>
      rw [hw] at o3
      have o4 : c.j = c.j2 := o3.2
      show A ++ ((l.drop a).take (c.i - a) ++ leftT l (spS 0 cs) c.i2) = B ++ leftT l2 (spS 1 cs) a2
      rw [← List.append_assoc]
      exact left_eq hL (Nat.le_refl _) (by omega) (by rw [Nat.sub_self, List.take_zero, List.append_nil, ← o4]; exact e)
    | ins =>
      rw [hw] at o3
      have o4 : c.i = c.i2 := o3.1
      show A ++ leftT l (spS 0 cs) a = B ++ ((l2.drop a2).take (c.j - a2) ++ leftT l2 (spS 1 cs) c.j2)
      rw [← List.append_assoc]
      exact left_eq hL (by omega) (Nat.le_refl _) (by rw [Nat.sub_self, List.take_zero, List.append_nil, ← o4]; exact e)
    | eq =>
      rw [hw] at o3
      obtain ⟨p1, p2, p3, p4⟩ := o3
      refine left_eq hL (by omega) (by omega) ?_
      have q : (l.drop c.i).take (c.i2 - c.i) = (l2.drop c.j).take (c.j2 - c.j) := by
        refine List.ext_getElem? fun t => ?_
        rw [List.getElem?_take, List.getElem?_take, ← p2, List.getElem?_drop, List.getElem?_drop]
        by_cases ht : t < c.i2 - c.i
        · rw [if_pos ht, if_pos ht, ch_at (p4 t ht)]
        · rw [if_neg ht, if_neg ht]
      rw [take_ext h1 (by omega), take_ext h2 (by omega), q, ← List.append_assoc, ← List.append_assoc, e]
theorem spS_len (side : Nat) (cs : List Code) : (spS side cs).length ≤ cs.length := by
  unfold spS
  rw [List.length_map]
  exact List.length_filter_le _ _
/-- codes that tell l and l2 -/
def Tells (l l2 : Ln) (cs : List Code) : Prop := (Lead (ch l) (ch l2) cs 0 0 l.length l2.length ∨ (cs = [] ∧ l = l2)) ∧ cs.length ≤ 2000
theorem TI.both {t : ShS} {xs ys : List Ln} {l l2 : Ln} {cs : List Code} (h : TI t xs ys) (hc : Tells l l2 cs) : TI (t.both l l2 cs) (xs ++ [l]) (ys ++ [l2]) := by
  have g := h.lay
  obtain ⟨hc, hl⟩ := hc
  have sp : SpOk 0 l.length (spS 0 cs) 0 ∧ SpOk 1 l2.length (spS 1 cs) 0 := by
    rcases hc with hc | ⟨rfl, _⟩
    · exact sp_ok hc (Nat.le_refl _) (Nat.le_refl _)
    · exact ⟨trivial, trivial⟩
  have le : leftT l (spS 0 cs) 0 = leftT l2 (spS 1 cs) 0 := by
    rcases hc with hc | ⟨rfl, rfl⟩
    · have q := left_eq (A := []) (B := []) hc (Nat.le_refl _) (Nat.le_refl _) (by simp)
      simpa using q
    · rfl
  have em : spS 0 cs = [] → spS 1 cs = [] → l = l2 := fun e1 e2 => by
    rw [e1, e2] at le
    simpa [leftT] using le
  have ln0 := spS_len 0 cs
  have ln1 := spS_len 1 cs
  have g0 : lefts t.lay.rows ++ [] = lefts t.lay.rows := List.append_nil _
  have ge0 := g.e0
  have ge1 := g.e1
  have z0 : t.lay.L = [] := rfl
  have z1 : t.lay.R = [] := rfl
  rw [z0, List.append_nil] at ge0
  rw [z1, List.append_nil] at ge1
  refine ⟨?_, ?_, ?_, ?_, fun r hr => ?_, fun s hs => (nomatch hs), fun s hs => (nomatch hs), fun r hr => ?_⟩
  · show t.n0 + 1 = _
    rw [h.n0, List.length_append]
    rfl
  · show t.n1 + 1 = _
    rw [h.n1, List.length_append]
    rfl
  · show (lefts (t.lay.rows ++ [(⟨some ⟨t.n0, l, spS 0 cs⟩, some ⟨t.n1, l2, spS 1 cs⟩, !cs.isEmpty⟩ : Rw)]) ++ []).map key = _
    unfold lefts at ge0 ⊢
    rw [List.append_nil, List.filterMap_append, List.map_append, ge0, enumF_snoc, h.n0, Nat.zero_add]
    rfl
  · show (rights (t.lay.rows ++ [(⟨some ⟨t.n0, l, spS 0 cs⟩, some ⟨t.n1, l2, spS 1 cs⟩, !cs.isEmpty⟩ : Rw)]) ++ []).map key = _
    unfold rights at ge1 ⊢
    rw [List.append_nil, List.filterMap_append, List.map_append, ge1, enumF_snoc, h.n1, Nat.zero_add]
    rfl
  · rcases List.mem_append.mp (show r ∈ t.lay.rows ++ [(⟨some ⟨t.n0, l, spS 0 cs⟩, some ⟨t.n1, l2, spS 1 cs⟩, !cs.isEmpty⟩ : Rw)] from hr) with q | q
    · exact g.so r q
    · rw [List.mem_singleton.mp q]
      exact ⟨fun a e => by rw [← Option.some.inj e]; exact ⟨sp.1, by show (spS 0 cs).length ≤ 2000; omega⟩, fun b e => by rw [← Option.some.inj e]; exact ⟨sp.2, by show (spS 1 cs).length ≤ 2000; omega⟩⟩
  · rcases List.mem_append.mp (show r ∈ t.lay.rows ++ [(⟨some ⟨t.n0, l, spS 0 cs⟩, some ⟨t.n1, l2, spS 1 cs⟩, !cs.isEmpty⟩ : Rw)] from hr) with q | q
    · exact g.ro r q
    · rw [List.mem_singleton.mp q]
      refine ⟨fun z => ?_, em, .inr le⟩
      have z : (!cs.isEmpty) = false := z
      have ec : cs = [] := by
        cases cs with
        | nil => rfl
        | cons c cs => simp at z
      subst ec
      exact ⟨em rfl rfl, rfl, rfl⟩
/-- what a piece must be -/
def Pc.Good (p : Pc) : Prop := p.Ok ∧ (∀ l ∈ p.l, l ≠ []) ∧ ∀ l ∈ p.r, l ≠ []
theorem TI.step {t : ShS} {xs ys : List Ln} {p : Pc} (h : TI t xs ys) (g : p.Good) : TI (t.step p) (xs ++ p.l) (ys ++ p.r) := by
  obtain ⟨g1, g2, g3⟩ := g
  cases p with
  | eq l => exact h.both ⟨.inr ⟨rfl, rfl⟩, Nat.zero_le _⟩
  | one l =>
    have q := h.put0 (l := l) (g2 l (List.mem_singleton.mpr rfl))
    show TI (t.put 0 l) (xs ++ [l]) (ys ++ [])
    rw [List.append_nil]
    exact q
  | oth l =>
    have q := h.put1 (l := l) (g3 l (List.mem_singleton.mpr rfl))
    show TI (t.put 1 l) (xs ++ []) (ys ++ [l])
    rw [List.append_nil]
    exact q
  | pair l l2 cs => exact h.both ⟨.inl g1.1, g1.2⟩
theorem TI.run {ps : List Pc} (h : ∀ p ∈ ps, p.Good) : TI (shRun ps) (ps.flatMap Pc.l) (ps.flatMap Pc.r) := by
  have key : ∀ (ps : List Pc) (t : ShS) (xs ys : List Ln), TI t xs ys → (∀ p ∈ ps, p.Good) → TI (ps.foldl ShS.step t) (xs ++ ps.flatMap Pc.l) (ys ++ ps.flatMap Pc.r) := by
    intro ps
    induction ps with
    | nil =>
      intro t xs ys h _
      rw [List.flatMap_nil, List.flatMap_nil, List.append_nil, List.append_nil]
      exact h
    | cons p ps ih =>
      intro t xs ys h hg
      have q := ih _ _ _ (h.step (hg p (List.mem_cons_self ..))) fun x hx => hg x (List.mem_cons_of_mem _ hx)
      rw [List.flatMap_cons, List.flatMap_cons, ← List.append_assoc, ← List.append_assoc]
      exact q
  have q := key ps ShS.new [] [] TI.new h
  rw [List.nil_append, List.nil_append] at q
  exact q
/-- what the law asks of the rows -/
structure RowsOk (rows : List Rw) (xs ys : List Ln) : Prop where
  e0 : (lefts rows).map key = enumF 0 xs
  e1 : (rights rows).map key = enumF 0 ys
  so : ∀ r ∈ rows, (∀ a, r.a = some a → SideOk 0 a) ∧ ∀ b, r.b = some b → SideOk 1 b
  ro : ∀ r ∈ rows, RowOk r
theorem rows_ok {ps : List Pc} {xs ys : List Ln} (h : PcsOk ps xs ys) (hx : ∀ l ∈ xs, l ≠ []) (hy : ∀ l ∈ ys, l ≠ []) : RowsOk (rowsOf ps) xs ys := by
  have g : ∀ p ∈ ps, p.Good := fun p hp => by
    refine ⟨h.ok p hp, fun l hl => hx l ?_, fun l hl => hy l ?_⟩
    · rw [← h.l]
      exact List.mem_flatMap.mpr ⟨p, hp, hl⟩
    · rw [← h.r]
      exact List.mem_flatMap.mpr ⟨p, hp, hl⟩
  have t := (TI.run g).lay
  rw [h.l, h.r] at t
  have e0 := t.e0
  have e1 := t.e1
  have z0 : (shRun ps).lay.L = [] := rfl
  have z1 : (shRun ps).lay.R = [] := rfl
  rw [z0, List.append_nil] at e0
  rw [z1, List.append_nil] at e1
  exact ⟨e0, e1, t.so, t.ro⟩
theorem rows_len {ps : List Pc} : (rowsOf ps).length ≤ ps.length := by
  have q := lay_m (shRun ps)
  have q2 := (run_m ps).1
  have z : (rowsOf ps).length ≤ (shRun ps).lay.m := by
    show (shRun ps).lay.rows.length ≤ _
    unfold ShS.m
    omega
  omega
end TwK

set_option Elab.async false
set_option linter.all false
set_option maxRecDepth 100000
set_option maxHeartbeats 2000000
set_option pp.deepTerms false
set_option pp.deepTerms.threshold 6
namespace TwK
open PySem PySem.Spec PyProof.Rows L2 SX
section
variable {P : Program} {w : World} {K : PySem.W.Frag} {mg : Str → Option Value} {base : Heap}
theorem fnN {x qual : Str} {params : Arguments} {body : List Stmt} {scope : Scope} {dvs : List V} {kws : List (Str × V)} {f : Addr} {fd : FuncData} {N ps : List Str} {k : Nat} {sp : Sp} (F : FunD K x qual params body scope dvs kws f fd) (S : FnScope N ps scope) (len : ∀ vs H Q E, sp vs H Q E → vs.length = ps.length)
    (hbody : ∀ (cdv : Value) (A : Around) (outer : List Env) (s : Shared) (H : Hp) (vs : List V) (Q : VK) (E : XK), Room k (A.deeper (envOfC qual scope s.heap.objs.size f cdv)) → sp vs H Q E →
      ∃ t, PSs (cxOf C8.CX0 P w K mg base N qual scope f cdv A outer s H E).nox body t ∧ t { nx := fun _ H' => Q .non H', rt := Q } (start N vs) H) : FnOk P w K mg base C8.CX0 (k + 1) f fd ps sp :=
  F.ok S len (fun cdv A outer s H vs Q E hr h => let ⟨t, h1, h2⟩ := hbody cdv A outer s H vs Q E hr h; ⟨t, h1.nox, h2⟩)
theorem row_sm {rows : List Rw} {xs ys : List Ln} (h : RowsOk rows xs ys) : ∀ x ∈ rows, rowSm x := fun x hx => ⟨fun a e => Nat.le_trans ((h.so x hx).1 a e).len (by decide), fun a e => Nat.le_trans ((h.so x hx).2 a e).len (by decide)⟩
theorem pieces_len {ps : List Pc} {xs ys : List Ln} (h : PcsOk ps xs ys) (hX : Tx xs) (hY : Tx ys) : ∀ p ∈ ps, p.Ok ∧ (∀ l ∈ p.l, l.length ≤ 1000) ∧ ∀ l ∈ p.r, l.length ≤ 1000 := fun p hp => by
  refine ⟨h.ok p hp, fun l hl => ?_, fun l hl => ?_⟩
  · have q := (hX.el l (by rw [← h.l]; exact List.mem_flatMap.mpr ⟨p, hp, hl⟩)).2
    omega
  · have q := (hY.el l (by rw [← h.r]; exact List.mem_flatMap.mpr ⟨p, hp, hl⟩)).2
    omega
theorem ok_pairs {fd : FuncData} (T : TX K mg) (F : FunD K "pairs" "pairs" (defArgs sPairs) (defBody sPairs) (defScope sPairs) (dPairs.dvs K) (dPairs.kws K) (He.ga K "pairs") fd) (md : MakD P w K mg base) (cp : C8.Met P w K mg base 8 (He.ga K "Differ") "pieces" (spPieces K) []) (cq : C8.Cal P w K mg base 3 "pairs_of" (spPairsOf K) []) (cs : C8.Cal P w K mg base 3 "shortened" (spShort K) []) :
    FnOk P w K mg base C8.CX0 9 (He.ga K "pairs") fd ["one", "other", "n", "line_junk", "sign_junk"] (spPairs K) := by
  refine fnN F sc_pairs (fun vs H Q E h => ?_) (fun cdv A outer s H vs Q E hr h => ?_)
  · obtain ⟨a, b, xs, ys, lj, sj, rfl, _⟩ := h
    rfl
  · obtain ⟨a, b, xs, ys, lj, sj, rfl, ha, hb, hX, hY, hlj, hsj, k⟩ := h
    have nd := sc_pairs.nd
    refine ⟨_, (pss_one (ps_ret (C8.pe_c cs hr (by decide) rfl (pa_cons (C8.pe_c cq hr (by decide) rfl (pa_cons (C8.pe_mt cp hr (by decide) (pe_mkd md hr (by decide) (by rfl) (pk_cons (pv 3) (pk_cons (pv 4) pk_nil))) (pa_cons (pv 0) (pa_cons (pv 1) pa_nil))) pa_nil)) (pa_cons (pv 2) pa_nil))))), ?_⟩
    refine ⟨_, rfl, _, rfl, ?_⟩
    refine ⟨rfl, rfl, fun d dx nd1 nd2 ne => ?_⟩
    have s0 : Same H (upd (upd H dx (.own d)) d (.ins (He.ga K "Differ") dx [])) := made_same0 nd1 nd2
    refine ⟨d, dx, lj, sj, rfl, upd_same, hlj.mono s0, hsj.mono s0, fun H1 s1 hD => ⟨rfl, ?_⟩⟩
    have t1 : Same H H1 := fun b o e => s1 b o (fun z => by rw [List.mem_singleton.mp z, nd1] at e; cases e) (s0 b o e)
    obtain ⟨dx', lj', sj', hD'⟩ := id hD
    refine ⟨d, dx', _, rfl, hD'.ob, df_no1, _, rfl, _, rfl, d, a, b, xs, ys, rfl, hD, t1.seq ha, t1.seq hb, hX, hY, fun H2 q ps s2 hq hps => ?_⟩
    obtain ⟨us, hq1, hq2⟩ := hq.mono own_same
    have pl := PcsOk.len hps
    have xl := hX.len
    have yl := hY.len
    refine ⟨q, us, ps, rfl, hq1, hq2, by omega, pieces_len hps hX hY, fun H3 r s3 hr3 => ?_⟩
    have ok := rows_ok hps (fun l hl => (hX.el l hl).1) fun l hl => (hY.el l hl).1
    have rl := rows_len (ps := ps)
    have t3 : Same H H3 := (t1.trans s2).trans s3
    obtain ⟨gr, g1, g2⟩ := hr3
    have nt := new_trans (H2 := H3) (t1.trans s2)
    refine ⟨_, rfl, H, r, rowsOf ps, rfl, t3, ⟨gr, nt _ _ g1, rows_mono g2 nt⟩, row_sm ok, by omega, fun H4 r4 s4 hr4 => k H4 r4 ps (t3.trans s4) hps hr4⟩
structure CalP (P : Program) (w : World) (K : PySem.W.Frag) (mg : Str → Option Value) (base : Heap) : Prop where
  ex : ∃ (f : Addr) (fd : FuncData) (ps : List Str) (g : List Value → List Value → List Value), FnOk P w K mg base C8.CX0 9 f fd ps (spPairs K) ∧ mg "pairs" = some (.ref f) ∧ PySem.W.keepIn K (.ref f) = true ∧ KBn K fd ps 2 ["line_junk", "sign_junk"] g (fun vs zs => vs ++ ([.non] ++ zs))
theorem cal_pairs (T : TX K mg) (md : MakD P w K mg base) (cp : C8.Met P w K mg base 8 (He.ga K "Differ") "pieces" (spPieces K) []) (cq : C8.Cal P w K mg base 3 "pairs_of" (spPairsOf K) []) (cs : C8.Cal P w K mg base 3 "shortened" (spShort K) []) : CalP P w K mg base := by
  obtain ⟨fd, F⟩ := T.f_Pairs
  obtain ⟨mv, hb⟩ := FunD.kbinds0 (ps := ["one", "other", "n", "line_junk", "sign_junk"]) F 2 ["line_junk", "sign_junk"] [("n", .non)] (fun us mv ws => us ++ (mv ++ ws)) (by intro z; cases z) (fun q hq => by
    rw [List.mem_singleton.mp hq]
    exact List.mem_cons_self ..) (fun r1 r2 r3 => r1.append (r2.append r3)) (fun D doc pm an cdv ct us mv ws h1 h2 h3 => match us, mv, ws, h1, h2, h3 with | [_, _], [_], [_, _], _, _, _ => ⟨_, _, _, _, _, _, rfl, rfl, rfl⟩)
  exact ⟨_, fd, _, _, ok_pairs T F md cp cq cs, T.g_pairs, F.kp, hb⟩
theorem pe_pairs {X : Cx} {j : Nat} {p pos : Pos} {e : Expr} {es : List Expr} {kws : List Keyword} {t tk : TA} (c : CalP X.prog X.w X.K X.mg X.base) (hr : Room j X.A) (hk : 9 ≤ j) (hg : Gl X "pairs") (ha : PA X (e :: es) t) (hkw : PK X kws tk)
    (hall : (backToKw pos (keywordEach kws X.env)).all (·.1.isSome) = true := by rfl) (hks : (backToKw pos (keywordEach kws X.env)).filterMap (·.1) = (["line_junk", "sign_junk"] : List Str) := by rfl)
    (he : starEach (e :: es) X.env = (false, eval e X.env) :: starEach es X.env := by rfl)
    (hpl : ((backTo pos (starEach (e :: es) X.env)).any (·.1) || (backToKw pos (keywordEach kws X.env)).any (·.1.isNone)) = false := by rfl) :
    PE X (.Call (.Name "pairs" p) (e :: es) kws pos) (tCallN 2 2 (spPairs X.K) (fun vs zs => vs ++ ([.non] ++ zs)) C8.E0 t tk) := by
  obtain ⟨f, fd, ps, g, F, hm, kp, hb⟩ := c.ex
  exact pe_callN F (hr.mono hk) hg hm kp hb C8.pass0 ha hkw hall hks (by decide) he hpl
end
end TwK

set_option Elab.async false
set_option linter.all false
set_option maxRecDepth 100000
set_option maxHeartbeats 2000000
set_option pp.deepTerms false
set_option pp.deepTerms.threshold 6
namespace TwK
open PySem PySem.Spec PyProof.Rows L2 SX
section
variable {X : Cx} {pos : Pos}
/-! ### text[::-1] -/
def tRevS (te : TE) : TE := fun σ H Q => te σ H fun x H1 => ∃ l : List Nat, x = tv l ∧ l.length ≤ 1000 ∧ ∀ l2 : List Nat, l2.length = l.length → Q (tv l2) H1
theorem pe_revS {e : Expr} {te : TE} {k : Nat} {p1 p2 p3 pos : Pos} (he : PE X e te) : PE X (.Subscript e (.Slice none none (some (.UnaryOp .USub (.Constant (.int 1) k p1) p2)) p3) pos) (tRevS te) := by
  refine ⟨fun pins s σ H Q I h => ?_⟩
  refine Subscript_ (thn (he.run pins s σ H _ I h) fun v s1 ⟨x, H1, I1, r1, q1⟩ => ?_)
  obtain ⟨l, ex, hx, q⟩ := q1
  subst ex
  obtain ⟨t, rfl⟩ := r1
  have hst : PO X (some (.UnaryOp .USub (.Constant (.int 1) k p1) p2)) (tPart (tUn (rU fun i => .int (-i)) (tC (.int 1)))) := po_some (pe_un un_neg pe_int)
  refine wpAny_Slice (thn (po_none.run pins s1 σ H1 (fun o H2 => o = none ∧ H2 = H1) I1 ⟨rfl, rfl⟩) fun vl s2 ⟨lo, H2, I2, pl, el, e2⟩ => ?_)
  subst el e2
  refine thn (po_none.run pins s2 σ H2 (fun o H3 => o = none ∧ H3 = H2) I2 ⟨rfl, rfl⟩) fun vu s3 ⟨u, H3, I3, pu, eu, e3⟩ => ?_
  subst eu e3
  refine thn (hst.run pins s3 σ H3 (fun o H4 => o = some (-1) ∧ H4 = H3) I3 ⟨1, rfl, -1, rfl, rfl, rfl⟩) fun vs s4 ⟨o, H4, I4, ps, eo, e4⟩ => ?_
  subst eo e4
  have I5 : Inv X pins σ H4 { s4 with heap := s4.heap.push { cls := .type "slice", data := .fields #[vl, vu, vs] } } := I4.kept (t' := s4.toks) fun b ob q => Heap.get?_push_of_some _ q
  obtain ⟨l1, rfl, e1⟩ := IsPart.raw pl
  obtain ⟨u1, rfl, eu1⟩ := IsPart.raw pu
  obtain ⟨st1, rfl, est⟩ := IsPart.raw ps
  show wpAny (model X.prog X.w) X.A (subscriptTail e (.Slice none none (some (.UnaryOp .USub (.Constant (.int 1) k p1) p2)) p3) (.str (S l) t) (.ref s4.heap.objs.size)) (EP X pins σ Q) X.xe { s4 with heap := s4.heap.push { cls := .type "slice", data := .fields #[partValue l1, partValue u1, partValue st1] } }
  refine tail_any (ops := [.ref s4.heap.objs.size, .str (S l) t]) (typeIs_str _ _ _) PySem.F.slot_str_getitem.lookup ?_ (by with_unfolding_all rfl)
  have hne : ((st1.map (·.1)).getD 1 == 1) = false := by rw [est]; rfl
  refine wpAny_getItem_str_slice (l := l1) (u := u1) (st := st1) ⟨_, Heap.get?_push_size _ rfl, rfl, rfl⟩ (by rw [est]; rfl) ?_
  unfold sliceMade
  rw [if_neg (by rw [hne, Bool.false_and]; exact Bool.false_ne_true)]
  have hpk : slicePicked (S l) l1 u1 st1 = (List.range (S l).length).map fun k => (S l).length - 1 - k := by
    unfold slicePicked
    rw [e1, eu1, est]
    exact picked_rev _
  have hlen : ((slicePicked (S l) l1 u1 st1).filterMap ((S l).cps[·]?)).length = l.length := by
    rw [hpk, filterMap_get, List.length_map, List.length_map, List.length_range, S_len]
    intro i hi
    obtain ⟨k, hk, rfl⟩ := List.mem_map.mp hi
    have hk' : k < (S l).length := List.mem_range.mp hk
    show (S l).length - 1 - k < (S l).length
    omega
  have hsz := sizeLine_eq
  exact ⟨by show ((slicePicked (S l) l1 u1 st1).filterMap ((S l).cps[·]?)).toArray.size ≤ _; rw [List.size_toArray, hlen]; omega, tv ((slicePicked (S l) l1 u1 st1).filterMap ((S l).cps[·]?)), H4, I5.tok _, ⟨_, rfl⟩, q _ hlen⟩
/-! ### a <= b < c <= d, as a test -/
theorem pt_chain3 {a b c d : Expr} {ta tb tc td : TE} {o1 o2 o3 : CmpOp} {r1 r2 r3 : R2} (h1 : OpR X (compareOp o1) r1) (h2 : OpR X (compareOp o2) r2) (h3 : OpR X (compareOp o3) r3) (ha : PE X a ta) (hb : PE X b tb) (hc : PE X c tc) (hd : PE X d td)
    (hm : lastMarks [o1, o2, o3] [b, c, d] = false := by with_unfolding_all rfl) : PT X (.Compare a [o1, o2, o3] [b, c, d] pos) (tTest (tChain3 r1 r2 r3 ta tb tc td)) := by
  refine ⟨fun pins s σ H Q I h => ?_⟩
  refine isTrue_chain (thn (ha.run pins s σ H _ I h) fun v s1 ⟨x, H1, I1, rx, q1⟩ => test_link (thn (hb.run pins s1 σ H1 _ I1 q1) fun u s2 ⟨y, H2, I2, ry, q2⟩ =>
    thn (h1 pins s2 σ H2 x y v u _ I2 rx ry q2) fun e s3 ⟨z, H3, I3, rz, k, ez, q3⟩ => ?_)) hm
  subst ez
  cases rz
  refine wpAny_truthy_bool ?_
  cases k with
  | false =>
    obtain ⟨k', e', q'⟩ := q3
    cases e'
    exact ite_ff ⟨H3, I3, q'⟩
  | true =>
    refine ite_tt (test_link (thn (hc.run pins s3 σ H3 _ I3 q3) fun w' s4 ⟨y2, H4, I4, r4, q4⟩ => thn (h2 pins s4 σ H4 y y2 u w' _ I4 ry r4 q4) fun d' s5 ⟨z2, H5, I5, r5, k2, e2, q5⟩ => ?_))
    subst e2
    cases r5
    refine wpAny_truthy_bool ?_
    cases k2 with
    | false =>
      obtain ⟨k', e', q'⟩ := q5
      cases e'
      exact ite_ff ⟨H5, I5, q'⟩
    | true =>
      refine ite_tt (test_last (thn (hd.run pins s5 σ H5 _ I5 q5) fun w2 s6 ⟨y3, H6, I6, r6, q6⟩ => thn (h3 pins s6 σ H6 y2 y3 w' w2 _ I6 r4 r6 q6) fun d2 s7 ⟨z3, H7, I7, r7, k3, e3, q7⟩ => ?_))
      subst e3
      cases r7
      exact wpAny_truthy_bool ⟨H7, I7, q7⟩
end
end TwK

set_option Elab.async false
set_option linter.all false
set_option maxRecDepth 100000
set_option maxHeartbeats 2000000
set_option pp.deepTerms false
set_option pp.deepTerms.threshold 6
namespace TwK
open PySem PySem.Spec PyProof.Rows L2 SX
/-! ### where blocks of changed rows begin -/
def cAt (rows : List Rw) (i : Nat) : Bool := match rows[i]? with
  | some r => r.c
  | none => false
def stA (rows : List Rw) (i : Nat) : Bool := cAt rows i && (i == 0 || !cAt rows (i - 1))
/-- the first block's begin among the last k rows -/
def nxK (rows : List Rw) : Nat → Option Nat
  | 0 => none
  | k + 1 => if stA rows (rows.length - 1 - k) = true then some (rows.length - 1 - k) else nxK rows k
def ov : Option Nat → V
  | none => .non
  | some j => iv j
theorem nxK_spec {rows : List Rw} : ∀ {k : Nat}, k ≤ rows.length → match nxK rows k with
    | none => ∀ m, rows.length - k ≤ m → stA rows m = false
    | some j => rows.length - k ≤ j ∧ j < rows.length ∧ stA rows j = true ∧ ∀ m, rows.length - k ≤ m → m < j → stA rows m = false
  | 0, _ => by
    show ∀ m, rows.length - 0 ≤ m → stA rows m = false
    intro m hm
    unfold stA cAt
    rw [List.getElem?_eq_none (by omega)]
    rfl
  | k + 1, hk => by
    have ih := nxK_spec (rows := rows) (k := k) (by omega)
    unfold nxK
    by_cases h : stA rows (rows.length - 1 - k) = true
    · rw [if_pos h]
      exact ⟨by omega, by omega, h, fun m h1 h2 => by omega⟩
    · rw [if_neg h]
      have hb : stA rows (rows.length - 1 - k) = false := by simpa using h
      have at_ : ∀ m, rows.length - (k + 1) ≤ m → m = rows.length - 1 - k ∨ rows.length - k ≤ m := fun m hm => by omega
      cases e : nxK rows k with
      | none =>
        rw [e] at ih
        intro m hm
        rcases at_ m hm with q | q
        · rw [q]; exact hb
        · exact ih m q
      | some j =>
        rw [e] at ih
        obtain ⟨i1, i2, i3, i4⟩ := ih
        refine ⟨by omega, i2, i3, fun m h1 h2 => ?_⟩
        rcases at_ m h1 with q | q
        · rw [q]; exact hb
        · exact i4 m q h2
/-- what next_changes tells -/
def nextL (rows : List Rw) : List V := ((List.range rows.length).map fun k => ov (nxK rows k)).reverse
theorem nextL_at {rows : List Rw} {i : Nat} (h : i < rows.length) : (nextL rows)[i]? = some (ov (nxK rows (rows.length - 1 - i))) := by
  unfold nextL
  rw [List.getElem?_reverse (by rw [List.length_map, List.length_range]; exact h), List.length_map, List.length_range, List.getElem?_map, List.getElem?_range (by omega)]
  rfl
/-- nothing changed between i and the next begin -/
theorem calm {rows : List Rw} {i b : Nat} (h : cAt rows i = false ∨ cAt rows (i + 1) = false) (hb : ∀ m, i + 1 ≤ m → m < b → stA rows m = false) : ∀ m, i < m → m < b → cAt rows m = false := by
  intro m
  induction m with
  | zero => intro h1; omega
  | succ m ih =>
    intro h1 h2
    have s := hb (m + 1) (by omega) h2
    unfold stA at s
    have e1 : (m + 1 == 0) = false := by simp
    rw [e1, Bool.false_or, Nat.add_sub_cancel] at s
    by_cases hm : m = i
    · subst hm
      rcases h with h | h
      · rw [h] at s; simpa using s
      · exact h
    · have q := ih (by omega) (by omega)
      rw [q] at s
      simpa using s
section
variable {P : Program} {w : World} {K : PySem.W.Frag} {mg : Str → Option Value} {base : Heap}
theorem sc_ischanged : FnScope ["row"] ["row"] (defScope sIsChanged) := ⟨rfl, rfl, rfl, by decide +kernel, rfl, by decide +kernel, by decide +kernel⟩
def spIsChanged : Sp := fun vs H Q _ => ∃ (v : V) (r : Rw), vs = [v] ∧ RowAt H v r ∧ Q (.bl r.c) H
theorem ok_ischanged (T : TX K mg) : C8.Cal P w K mg base 1 "is_changed" spIsChanged [] := by
  refine calN T.f_IsChanged T.g_is_changed sc_ischanged (fun _ _ _ _ _ _ us hl => match us, hl with | [_], _ => rfl) (fun vs H Q E h => ?_) (fun cdv A outer s H vs Q E hr h => ?_)
  · obtain ⟨v, r, rfl, _⟩ := h
    rfl
  · obtain ⟨v, r, rfl, ⟨p, x, y, rfl, hp, hx, hy⟩, k⟩ := h
    refine ⟨_, (pss_one (ps_ret (pe_and (pe_cmpR op_notN (pv 0) pe_non (nomark _)) (pe_one (pe_ix ix_tup (pv 0) pe_int (fun _ _ => rfl)))))), ?_⟩
    refine ⟨_, rfl, rfl, true, rfl, iteT ⟨_, rfl, p, _, _, _, rfl, rfl, SqT.of hp, at_of (j := 2) rfl rfl, k⟩⟩
theorem sc_next : FnScope ["rows", "found", "last", "at"] ["rows"] (defScope sNextChanges) := ⟨rfl, rfl, rfl, by decide +kernel, rfl, by decide +kernel, by decide +kernel⟩
def spNext (K : PySem.W.Frag) : Sp := fun vs H Q _ => ∃ (r : Addr) (rows : List Rw), vs = [.ref r] ∧ RowsAt H r rows ∧ rows.length ≤ 1000 ∧ ∀ (H' : Hp) (q : Addr), Same H H' → H' q = some (.lst (nextL rows)) → Q (.ref q) H'
theorem ok_next (T : TX K mg) (ci : C8.Cal P w K mg base 1 "is_changed" spIsChanged []) : C8.Cal P w K mg base 2 "next_changes" (spNext K) [] := by
  refine calN T.f_NextChanges T.g_next_changes sc_next (fun _ _ _ _ _ _ us hl => match us, hl with | [_], _ => rfl) (fun vs H Q E h => ?_) (fun cdv A outer s H vs Q E hr h => ?_)
  · obtain ⟨r, rows, rfl, _⟩ := h
    rfl
  · obtain ⟨r, rows, rfl, ⟨gr, hr0, hP⟩, hl, k⟩ := h
    have nd := sc_next.nd
    have gl := Paired.length hP
    refine ⟨_, (pss_cons (ps_par (i := 1) (j := 2) (by rfl) nd rfl rfl (by decide) rfl rfl (pa_cons (pe_lst pa_nil) (pa_cons pe_non pa_nil)) (by rfl))
  (C8.pss_cut (ps_for PassesOwn.never rfl (pi_range3 (by rfl) T.n_range (pa_cons (pe_op op_sub (pe_callB call_len (by rfl) T.n_len PySem.boot_len (pa_cons (pv 0) pa_nil)) pe_int) (pa_cons (pe_un un_neg pe_int) (pa_cons (pe_un un_neg pe_int) pa_nil)))) (pg_name (i := 3) nd rfl (.inl rfl))
  (pss_cons (ps_expr (pe_bm PySem.F.plainAttrs_list PySem.F.slot_list_append PySem.F.type_list_append mt_append (pv 1) (pa_cons (pv 2) pa_nil)))
  (pss_one (ps_if (PW.pt (pw_and (pt_val (C8.pe_c ci hr (by decide) rfl (pa_cons (pe_ix ix_list (pv 0) (pv 3) (fun _ _ => rfl)) pa_nil))) (pw_and1 (PW.pt (pw_or (pt_cmpR op_eq (pv 3) pe_int (nomark _)) (pw_or1 (pt_not (pt_val (C8.pe_c ci hr (by decide) rfl (pa_cons (pe_ix ix_list (pv 0) (pe_op op_sub (pv 3) pe_int) (fun _ _ => rfl)) pa_nil)))))))))) (pss_one (ps_set (i := 2) nd rfl (.inl rfl) (pv 3))) pss_nil))))
  (pss_one (ps_ret (pe_revL (pv 1)))))), ?_⟩
    refine ⟨Nat.zero_le _, fun f hf => ⟨_, _, rfl, ?_⟩⟩
    have h0 := same_new (o := .lst []) hf
    refine ⟨fun σ H' => ∃ v2 v3, σ = [some (.ref r), some (.ref f), v2, v3] ∧ Bld H H' f (((List.range rows.length).map fun k => ov (nxK rows k))), ?_, ?_⟩
    · refine ⟨_, rfl, _, gr.length, rfl, .inl ⟨gr, SqL.of (h0 _ _ hr0), rfl⟩, _, _, rfl, rfl, _, rfl, _, rfl, (gr.length : Int) - 1, -1, -1, ((gr.length : Int) - 1 - -1).toNat, rfl, RgC.neg (by omega) (by omega) (by omega) (by omega), ?_⟩
      have en : ((gr.length : Int) - 1 - -1).toNat = rows.length := by omega
      rw [en]
      refine for_gen (n := rows.length) (fun i σ H' => ∃ v3, σ = [some (.ref r), some (.ref f), some (ov (nxK rows i)), v3] ∧ Bld H H' f (((List.range i).map fun k => ov (nxK rows k)))) ⟨_, rfl, Bld.start (Same.refl _) hf⟩ (fun σ H' _ => Nat.le_refl _) (fun i σ H' h _ => h) ?_ ?_
      · rintro i x σ H' H2 hi ⟨v3, rfl, B⟩ ⟨rfl, rfl⟩
        have ex : (gr.length : Int) - 1 + ((i : Nat) : Int) * (-1) = ((rows.length - 1 - i : Nat) : Int) := by omega
        rw [ex]
        obtain ⟨m, em⟩ : ∃ m : Nat, m = rows.length - 1 - i := ⟨_, rfl⟩
        rw [← em]
        have hm : m < rows.length := by omega
        obtain ⟨x, hx, fx⟩ := Paired.at2 hP (List.getElem?_eq_getElem hm)
        have hgr : ∀ {H3 : Hp}, Same H2 H3 → SqL K H3 r gr := fun s => SqL.of (s _ _ (B.same _ _ hr0))
        have il : ((List.range i).map fun k => ov (nxK rows k)).length < sizeLine := by
          rw [List.length_map, List.length_range, sizeLine_eq]
          omega
        have B1 : Bld H (upd H2 f (.lst (((List.range i).map fun k => ov (nxK rows k)) ++ [ov (nxK rows i)]))) f ((List.range (i + 1)).map fun k => ov (nxK rows k)) := by
          rw [List.range_succ, List.map_append]
          exact B.push
        have hgr1 : SqL K (upd H2 f (.lst (((List.range i).map fun k => ov (nxK rows k)) ++ [ov (nxK rows i)]))) r gr := SqL.of (B1.same _ _ hr0)
        have hc : cAt rows m = (rows[m]).c := by
          unfold cAt
          rw [List.getElem?_eq_getElem hm]
        have hn : nxK rows (i + 1) = if stA rows m = true then some m else nxK rows i := by
          rw [em]
          rfl
        refine ⟨_, rfl, .inl ⟨rfl, _, SqL.of B.at_⟩, _, rfl, f, _, _, rfl, rfl, B.at_, il, ?_⟩
        have fin : ∀ st, stA rows m = st → (if st = true then some m else nxK rows i) = nxK rows (i + 1) := fun st e => by rw [hn, e]
        refine ⟨_, rfl, _, rfl, r, gr, _, _, rfl, rfl, hgr1, at_of rfl hx, x, rows[m], rfl, fx.mono B1.same, _, rfl, iteB (fun c1 => ?_) fun c1 => ?_⟩
        · refine ⟨_, rfl, rfl, _, rfl, iteD (fun e => ?_) fun e => ?_⟩
          · have e0 : m = 0 := by
              injection e with e
              omega
            have st : stA rows m = true := by
              unfold stA
              rw [hc, c1, e0]
              rfl
            refine ⟨_, rfl, ?_⟩
            have q := fin _ st
            rw [if_pos rfl] at q
            refine ⟨some (iv m), ?_, B1⟩
            rw [← q]
            rfl
          · have e0 : m ≠ 0 := fun z => e (by rw [z]; rfl)
            obtain ⟨x2, hx2, fx2⟩ := Paired.at2 hP (List.getElem?_eq_getElem (show m - 1 < rows.length by omega))
            have hc2 : cAt rows (m - 1) = (rows[m - 1]).c := by
              unfold cAt
              rw [List.getElem?_eq_getElem (show m - 1 < rows.length by omega)]
            refine ⟨_, rfl, _, rfl, _, _, rfl, rfl, r, gr, _, _, rfl, rfl, hgr1, at_of (by omega) hx2, x2, rows[m - 1], rfl, fx2.mono B1.same, _, rfl, ?_⟩
            have st : stA rows m = !(rows[m - 1]).c := by
              unfold stA
              rw [hc, c1, hc2, show (m == 0) = false by simpa using e0]
              rfl
            have q := fin _ st
            refine iteB (fun c2 => ⟨_, rfl, ?_⟩) fun c2 => ?_
            · rw [if_pos c2] at q
              refine ⟨some (iv m), ?_, B1⟩
              rw [← q]
              rfl
            · rw [if_neg (by rw [c2]; exact Bool.false_ne_true)] at q
              refine ⟨some (iv m), ?_, B1⟩
              rw [← q]
              rfl
        · have st : stA rows m = false := by
            unfold stA
            rw [hc, c1, Bool.false_and]
          have q := fin _ st
          rw [if_neg Bool.false_ne_true] at q
          refine ⟨some (iv m), ?_, B1⟩
          rw [← q]
          rfl
      · rintro σ H' ⟨v3, rfl, B⟩
        exact ⟨_, _, rfl, B⟩
    · rintro σ H' ⟨v2, v3, rfl, B⟩
      refine ⟨_, rfl, f, _, rfl, SqL.of B.at_, fun q hq => k _ q (B.same.trans (same_new hq)) upd_same⟩
end
end TwK

set_option Elab.async false
set_option linter.all false
set_option maxRecDepth 100000
set_option maxHeartbeats 2000000
set_option pp.deepTerms false
set_option pp.deepTerms.threshold 6
namespace TwK
open PySem PySem.Spec PyProof.Rows L2 SX
/-! ### the source of draws -/
/-- d: the source; a: its list of big cells, which shrinks; b: the other cells; c: its counter -/
def Dr (H : Hp) (d a b : Addr) (c : Nat) : Prop := ∃ (x : Int) (as bs : List Int), H d = some (.lst [.ref a, .int x, .ref b, iv c]) ∧ H a = some (.lst (as.map V.int)) ∧ H b = some (.lst (bs.map V.int)) ∧ a ≠ b
theorem not_ints {a b : Addr} {x : Int} {c : Nat} {as : List Int} (h : (HO.lst [.ref a, .int x, .ref b, iv c]) = .lst (as.map V.int)) : False := by
  injection h with h
  cases as with
  | nil => cases h
  | cons y ys =>
    injection h with h1 h2
    cases h1
theorem Dr.ne {H : Hp} {d a b : Addr} {c : Nat} (h : Dr H d a b c) : d ≠ a := by
  obtain ⟨x, as, bs, h1, h2, h3, h4⟩ := h
  intro e
  rw [e, h2] at h1
  exact not_ints (Option.some.inj h1).symm
/-- all is kept, but for d and a -/
theorem Dr.mono {H H' : Hp} {d a b : Addr} {c : Nat} (h : Dr H d a b c) (s : Same H H') : Dr H' d a b c := by
  obtain ⟨x, as, bs, h1, h2, h3, h4⟩ := h
  exact ⟨x, as, bs, s _ _ h1, s _ _ h2, s _ _ h3, h4⟩
theorem Dr.new {H : Hp} {d a b p : Addr} {o : HO} {c : Nat} (h : Dr H d a b c) (hp : H p = none) : Dr (upd H p o) d a b c := h.mono (same_new hp)
theorem Dr.in_ {H : Hp} {d a b : Addr} {c : Nat} (h : Dr H d a b c) : ∀ z ∈ [d, a], H z ≠ none := by
  obtain ⟨x, as, bs, q1, q2, q3, q4⟩ := h
  intro z hz
  rcases List.mem_cons.mp hz with e | hz
  · rw [e, q1]; exact fun z => nomatch z
  · rw [List.mem_singleton.mp hz, q2]; exact fun z => nomatch z
/-- a list that grows while draws are taken -/
structure BX (d a b : Addr) (H0 H : Hp) (f : Addr) (vs : List V) : Prop where
  same : SameX [d, a] H0 H
  nf : H0 f = none
  kn : H0 d ≠ none ∧ H0 a ≠ none ∧ H0 b ≠ none
  at_ : H f = some (.lst vs)
theorem Dr.kn {H : Hp} {d a b : Addr} {c : Nat} (h : Dr H d a b c) : H d ≠ none ∧ H a ≠ none ∧ H b ≠ none := by
  obtain ⟨x, as, bs, q1, q2, q3, q4⟩ := h
  rw [q1, q2, q3]
  exact ⟨fun z => (nomatch z), fun z => (nomatch z), fun z => (nomatch z)⟩
section
variable {d a b f p : Addr} {H0 H H' : Hp} {vs vs' : List V} {c c' : Nat} {o : HO}
theorem BX.nin (B : BX d a b H0 H f vs) : f ∉ [d, a] := fun z => by
  rcases List.mem_cons.mp z with e | z
  · exact B.kn.1 (by rw [← e]; exact B.nf)
  · exact B.kn.2.1 (by rw [← List.mem_singleton.mp z]; exact B.nf)
theorem BX.start (h : SameX [d, a] H0 H) (D0 : Dr H0 d a b c) (D : Dr H d a b c') (hf : H f = none) : BX d a b H0 (upd H f (.lst vs)) f vs :=
  ⟨sx_new h hf, sx_free h (fun z => D.in_ f z hf) hf, D0.kn, upd_same⟩
theorem BX.push (B : BX d a b H0 H f vs) : BX d a b H0 (upd H f (.lst vs')) f vs' := ⟨sx_put B.same B.nf, B.nf, B.kn, upd_same⟩
theorem BX.call (B : BX d a b H0 H f vs) (s : SameX [d, a] H H') : BX d a b H0 H' f vs := ⟨sx_trans B.same s, B.nf, B.kn, s f _ B.nin B.at_⟩
theorem BX.new (B : BX d a b H0 H f vs) (hp : H p = none) : BX d a b H0 (upd H p o) f vs := ⟨sx_new B.same hp, B.nf, B.kn, same_new hp _ _ B.at_⟩
theorem BX.dr (B : BX d a b H0 H f vs) (D : Dr H d a b c) : Dr (upd H f o) d a b c := by
  obtain ⟨x, as, bs, q1, q2, q3, q4⟩ := D
  have n1 : d ≠ f := fun e => B.kn.1 (by rw [e]; exact B.nf)
  have n2 : a ≠ f := fun e => B.kn.2.1 (by rw [e]; exact B.nf)
  have n3 : b ≠ f := fun e => B.kn.2.2 (by rw [e]; exact B.nf)
  exact ⟨x, as, bs, by rw [upd_ne n1]; exact q1, by rw [upd_ne n2]; exact q2, by rw [upd_ne n3]; exact q3, q4⟩
end
section
variable {P : Program} {w : World} {K : PySem.W.Frag} {mg : Str → Option Value} {base : Heap}
theorem sc_mixed : FnScope ["_law_seed", "_law_k", "_law_first"] ["_law_seed", "_law_k"] (defScope sLawMixed) := ⟨rfl, rfl, rfl, by decide +kernel, rfl, by decide +kernel, by decide +kernel⟩
def spMixed : Sp := fun vs H Q _ => ∃ (sd : Int) (k : Nat), vs = [.int sd, iv k] ∧ k ≤ 10000000 ∧ ∀ r : Nat, r < 1000000007 → Q (iv r) H
theorem ok_mixed (T : TX K mg) : C8.Cal P w K mg base 1 "_law_mixed" spMixed [] := by
  refine calN T.f_LawMixed T.g__law_mixed sc_mixed (fun _ _ _ _ _ _ us hl => match us, hl with | [_, _], _ => rfl) (fun vs H Q E h => ?_) (fun cdv A outer s H vs Q E hr h => ?_)
  · obtain ⟨sd, k, rfl, _⟩ := h
    rfl
  · obtain ⟨sd, kk, rfl, hk, k⟩ := h
    have nd := sc_mixed.nd
    refine ⟨_, (pss_cons (ps_set (i := 2) nd rfl (.inl rfl) (pe_op op_mod (pe_callTy call_int1 (by rfl) T.n_int (by decide +kernel) (pa_cons (pe_op op_pow (pe_op op_add (pe_op op_add (pe_op op_mod (pe_callTy call_int1 (by rfl) T.n_int (by decide +kernel) (pa_cons (pv 0) pa_nil)) pe_int) (pe_op op_mul pe_int (pv 1))) pe_int) pe_int) pa_nil)) pe_int))
  (pss_one (ps_ret (pe_op op_mod (pe_callTy call_int1 (by rfl) T.n_int (by decide +kernel) (pa_cons (pe_op op_pow (pe_op op_add (pe_op op_add (pe_op op_mul (pv 2) pe_int) (pe_op op_mul (pe_op op_mul pe_int (pv 1)) (pv 1))) pe_int) pe_int) pa_nil)) pe_int)))), ?_⟩
    have b1 : 0 ≤ sd % 2147483647 := Int.emod_nonneg _ (by decide)
    have b2 : sd % 2147483647 < 2147483647 := Int.emod_lt_of_pos _ (by decide)
    have d1 : (0 : Int) < 2147483647 := by decide
    have d2 : (0 : Int) < 2147483629 := by decide
    have d3 : (0 : Int) < 1000000007 := by decide
    refine ⟨_, rfl, .inl ⟨_, rfl, _, _, rfl, rfl, d1, _, rfl, _, _, rfl, rfl, .inl ⟨by decide, by decide⟩, _, _, rfl, rfl, _, _, rfl, rfl, _, _, rfl, rfl, ⟨by decide, by decide, ?_⟩, ?_⟩⟩
    · omega
    refine .inl ⟨_, rfl, _, _, rfl, rfl, d2, ?_⟩
    have k2 : kk * kk ≤ 10000000 * 10000000 := Nat.mul_le_mul hk hk
    have e2 : 40503 * (kk : Int) * (kk : Int) = ((40503 * (kk * kk) : Nat) : Int) := by
      rw [Int.mul_assoc]
      simp
    have c1 : ∀ z : Int, CMul (z % 2147483629) 48271 := fun z => .inr ⟨by decide, by decide⟩
    have c2 : CMul 40503 (kk : Int) := .inl ⟨by decide, by decide⟩
    have c3 : CMul (40503 * (kk : Int)) (kk : Int) := .inr ⟨by omega, by omega⟩
    have c4 : ∀ z : Int, CPow (z % 2147483629 * 48271 + 40503 * (kk : Int) * (kk : Int) + 13) 3 := fun z => ⟨by decide, by decide, by rw [e2]; omega⟩
    have fin : ∀ z : Int, Q (.int (z % 1000000007)) H := fun z => by
      have g1 := Int.emod_nonneg z (by decide : (1000000007 : Int) ≠ 0)
      have g2 := Int.emod_lt_of_pos z d3
      have q : Q (.int (((z % 1000000007).toNat : Nat) : Int)) H := k (z % 1000000007).toNat (by omega)
      rw [Int.toNat_of_nonneg g1] at q
      exact q
    exact ⟨_, rfl, _, _, rfl, rfl, c1 _, _, rfl, _, _, rfl, rfl, c2, _, rfl, _, _, rfl, rfl, c3, _, _, rfl, rfl, _, _, rfl, rfl, _, _, rfl, rfl, c4 _, .inl ⟨_, rfl, _, _, rfl, rfl, d3, fin _⟩⟩
theorem sc_take : FnScope ["_law_draws_here", "_law_size", "_law_found", "_law_seed", "_law_reach"] ["_law_draws_here", "_law_size"] (defScope sLawTake) := ⟨rfl, rfl, rfl, by decide +kernel, rfl, by decide +kernel, by decide +kernel⟩
def spTake : Sp := fun vs H Q _ => ∃ (d a b : Addr) (n c : Nat), vs = [.ref d, iv n] ∧ Dr H d a b c ∧ 1 ≤ n ∧ n ≤ 1000000 ∧ c ≤ 8000000 ∧ ∀ (H' : Hp) (r : Nat), SameX [d, a] H H' → Dr H' d a b (c + 1) → r < n → Q (iv r) H'
theorem ok_take (T : TX K mg) (cm : C8.Cal P w K mg base 1 "_law_mixed" spMixed []) : C8.Cal P w K mg base 2 "_law_take" spTake [] := by
  refine calN T.f_LawTake T.g__law_take sc_take (fun _ _ _ _ _ _ us hl => match us, hl with | [_, _], _ => rfl) (fun vs H Q E h => ?_) (fun cdv A outer s H vs Q E hr h => ?_)
  · obtain ⟨d, a, b, n, c, rfl, _⟩ := h
    rfl
  · obtain ⟨d, a, b, n, c, rfl, D, h1, h2, hc, k⟩ := h
    have nd := sc_take.nd
    refine ⟨_, (C8.pss_cut (ps_asg (pe_op op_add (pe_ix ix_list (pv 0) pe_int (fun _ _ => rfl)) pe_int) (pg_sub (pv 0) pe_int set_list))
  (C8.pss_cut (ps_if (PW.pt (pw_and (pt_cmpR op_eq (pe_ix ix_list (pv 0) pe_int (fun _ _ => rfl)) pe_int (nomark _)) (pw_and1 (pt_cmpR (op_neE hr.units0) (pe_ix ix_list (pv 0) pe_int (fun _ _ => rfl)) (pe_lst pa_nil) (nomark _))))) (pss_one (ps_asg (pe_bm PySem.F.plainAttrs_list PySem.F.slot_list_pop PySem.F.type_list_pop mt_popAt (pe_ix ix_list (pv 0) pe_int (fun _ _ => rfl)) (pa_cons pe_int pa_nil)) (pg_sub (pv 0) pe_int set_list))) pss_nil)
  (C8.pss_cut (ps_if (pt_cmpR op_gt (pe_ix ix_list (pv 0) pe_int (fun _ _ => rfl)) pe_int (nomark _)) (pss_cons (ps_set (i := 2) nd rfl (.inl rfl) (pe_op op_mod (pe_callTy call_int1 (by rfl) T.n_int (by decide +kernel) (pa_cons (pe_ix ix_list (pv 0) pe_int (fun _ _ => rfl)) pa_nil)) (pv 1)))
  (pss_cons (ps_asg (pe_op op_fdiv (pe_ix ix_list (pv 0) pe_int (fun _ _ => rfl)) (pv 1)) (pg_sub (pv 0) pe_int set_list))
  (pss_one (ps_ret (pv 2))))) pss_nil)
  (pss_cons (ps_set (i := 3) nd rfl (.inl rfl) pe_int)
  (C8.pss_cut (ps_if (pt_cmpR (op_neE hr.units0) (pe_ix ix_list (pv 0) pe_int (fun _ _ => rfl)) (pe_lst pa_nil) (nomark _)) (pss_one (ps_set (i := 3) nd rfl (.inl rfl) (pe_ix ix_list (pe_ix ix_list (pv 0) pe_int (fun _ _ => rfl)) (pe_op op_mod (pe_callTy call_int1 (by rfl) T.n_int (by decide +kernel) (pa_cons (pe_ix ix_list (pv 0) pe_int (fun _ _ => rfl)) pa_nil)) (pe_callB call_len (by rfl) T.n_len PySem.boot_len (pa_cons (pe_ix ix_list (pv 0) pe_int (fun _ _ => rfl)) pa_nil))) (fun _ _ => rfl)))) pss_nil)
  (pss_cons (ps_set (i := 2) nd rfl (.inl rfl) pe_int)
  (pss_cons (ps_set (i := 4) nd rfl (.inl rfl) pe_int)
  (C8.pss_cut (ps_while PassesOwn.never (pt_cmpR op_lt (pv 4) (pv 1) (nomark _))
  (pss_cons (ps_set (i := 2) nd rfl (.inl rfl) (pe_op op_add (pe_op op_mul (pv 2) pe_int) (C8.pe_c cm hr (by decide) rfl (pa_cons (pv 3) (pa_cons (pe_op op_add (pe_ix ix_list (pv 0) pe_int (fun _ _ => rfl)) (pe_op op_mul pe_int (pe_op op_mod (pe_callTy call_int1 (by rfl) T.n_int (by decide +kernel) (pa_cons (pv 2) pa_nil)) pe_int))) pa_nil)))))
  (pss_one (ps_set (i := 4) nd rfl (.inl rfl) (pe_op op_mul (pv 4) pe_int)))))
  (pss_one (ps_ret (pe_op op_mod (pe_callTy call_int1 (by rfl) T.n_int (by decide +kernel) (pa_cons (pv 2) pa_nil)) (pv 1)))))))))))), ?_⟩
    let Mid : L2.St → Hp → Prop := fun σ H' => σ = [some (.ref d), some (iv n), none, none, none] ∧ SameX [d, a] H H' ∧ Dr H' d a b (c + 1)
    have n0 : (0 : Int) < (n : Int) := by omega
    have fin : ∀ (H2 : Hp) (z : Int), SameX [d, a] H H2 → Dr H2 d a b (c + 1) → Q (.int (z % (n : Int))) H2 := fun H2 z s2 d2 => by
      have g1 := Int.emod_nonneg z (by omega : (n : Int) ≠ 0)
      have g2 := Int.emod_lt_of_pos z n0
      have q : Q (.int (((z % (n : Int)).toNat : Nat) : Int)) H2 := k H2 (z % (n : Int)).toNat s2 d2 (by omega)
      rw [Int.toNat_of_nonneg g1] at q
      exact q
    have md : d ∈ [d, a] := List.mem_cons_self ..
    have ma : a ∈ [d, a] := List.mem_cons_of_mem _ (List.mem_cons_self ..)
    refine ⟨Mid, ?_, ?_⟩
    · obtain ⟨x, as, bs, q1, q2, q3, q4⟩ := id D
      refine ⟨_, rfl, d, _, _, _, rfl, rfl, SqL.of q1, at_of (j := 3) rfl rfl, _, _, rfl, rfl, _, rfl, d, _, _, 3, rfl, rfl, q1, rfl, rfl, sx_in sx_refl md, ?_⟩
      exact ⟨x, as, bs, upd_same, by rw [upd_ne D.ne.symm]; exact q2, by rw [upd_ne (fun e => not_ints (Option.some.inj (by rw [← q1, ← e]; exact q3)))]; exact q3, q4⟩
    rintro σ H' ⟨rfl, S1, D1⟩
    refine ⟨Mid, ?_, ?_⟩
    · obtain ⟨x, as, bs, q1, q2, q3, q4⟩ := id D1
      refine ⟨_, rfl, d, _, _, _, rfl, rfl, SqL.of q1, at_of (j := 1) rfl rfl, rfl, _, rfl, iteD (fun e => ?_) fun _ => iteF ⟨rfl, S1, D1⟩⟩
      refine ⟨_, rfl, d, _, _, _, rfl, rfl, SqL.of q1, at_of (j := 0) rfl rfl, Nat.zero_le _, fun z hz => ⟨a, z, _, rfl, rfl, SqL.of (same_new hz _ _ q2), upd_same, _, rfl, ?_⟩⟩
      have z1 := same_new (o := .lst []) hz
      cases as with
      | nil => exact iteF ⟨rfl, sx_new S1 hz, D1.new hz⟩
      | cons y ys =>
        have nda := D1.ne
        have p1 : (upd (upd H' z (.lst [])) a (.lst (ys.map V.int))) d = some (.lst [.ref a, .int x, .ref b, iv (c + 1)]) := by
          rw [upd_ne nda]
          exact z1 _ _ q1
        refine iteT ⟨_, rfl, d, _, _, _, rfl, rfl, SqL.of (z1 _ _ q1), at_of (j := 0) rfl rfl, .inl ⟨rfl, _, SqL.of (z1 _ _ q2)⟩, a, _, _, 0, .int y, rfl, rfl, z1 _ _ q2, by decide, by decide, by simp [seqIndex?], rfl, _, rfl, d, _, _, 1, rfl, rfl, p1, rfl, rfl, sx_in (sx_in (sx_new S1 hz) ma) md, ?_⟩
        refine ⟨y, ys, bs, upd_same, by rw [upd_ne nda.symm]; exact upd_same, ?_, q4⟩
        rw [upd_ne (fun e => not_ints (Option.some.inj (by rw [← p1, ← e, upd_ne q4.symm]; exact z1 _ _ q3))), upd_ne q4.symm]
        exact z1 _ _ q3
    rintro σ H' ⟨rfl, S1, D1⟩
    refine ⟨Mid, ?_, ?_⟩
    · obtain ⟨x, as, bs, q1, q2, q3, q4⟩ := id D1
      have nda := D1.ne
      have hb : b ≠ d := fun e => not_ints (Option.some.inj (by rw [← q1, ← e]; exact q3))
      refine ⟨_, rfl, d, _, _, _, rfl, rfl, SqL.of q1, at_of (j := 1) rfl rfl, _, _, rfl, rfl, _, rfl, iteD (fun e => ?_) fun _ => ⟨rfl, S1, D1⟩⟩
      refine ⟨_, rfl, d, _, _, _, rfl, rfl, SqL.of q1, at_of (j := 1) rfl rfl, .inl ⟨_, rfl, _, rfl, _, _, rfl, rfl, n0, ?_⟩⟩
      refine ⟨_, rfl, d, _, _, _, rfl, rfl, SqL.of q1, at_of (j := 1) rfl rfl, _, rfl, _, _, rfl, rfl, ⟨n0, by omega⟩, _, rfl, d, _, _, 1, rfl, rfl, q1, rfl, _, rfl, fin _ _ (sx_in S1 md) ?_⟩
      exact ⟨x / (n : Int), as, bs, upd_same, by rw [upd_ne nda.symm]; exact q2, by rw [upd_ne hb]; exact q3, q4⟩
    rintro σ H' ⟨rfl, S1, D1⟩
    obtain ⟨x, as, bs, q1, q2, q3, q4⟩ := id D1
    refine ⟨fun σ H2 => ∃ sd : Int, σ = [some (.ref d), some (iv n), none, some (.int sd), none] ∧ SameX [d, a] H H2 ∧ Dr H2 d a b (c + 1), ?_, ?_⟩
    · refine ⟨_, rfl, d, _, _, _, rfl, rfl, SqL.of q1, at_of (j := 2) rfl rfl, Nat.zero_le _, fun z hz => ⟨b, z, _, rfl, rfl, SqL.of (same_new hz _ _ q3), upd_same, _, rfl, ?_⟩⟩
      have z1 := same_new (o := .lst []) hz
      cases bs with
      | nil => exact iteF ⟨_, rfl, sx_new S1 hz, D1.new hz⟩
      | cons y ys =>
        obtain ⟨u, hu⟩ : ∃ u, (y :: ys)[(c + 1) % (ys.length + 1)]? = some u := ⟨_, List.getElem?_eq_getElem (show (c + 1) % (ys.length + 1) < ys.length + 1 from Nat.mod_lt _ (Nat.succ_pos _))⟩
        have hu2 : ((y :: ys).map V.int)[(c + 1) % (ys.length + 1)]? = some (.int u) := by rw [List.getElem?_map, hu]; rfl
        have el : (((y :: ys).map V.int).length : Nat) = ys.length + 1 := by simp
        refine iteT ⟨_, rfl, d, _, _, _, rfl, rfl, SqL.of (z1 _ _ q1), at_of (j := 2) rfl rfl, _, rfl, d, _, _, _, rfl, rfl, SqL.of (z1 _ _ q1), at_of (j := 3) rfl rfl, .inl ⟨_, rfl, _, rfl, d, _, _, _, rfl, rfl, SqL.of (z1 _ _ q1), at_of (j := 2) rfl rfl, _, ys.length + 1, rfl, .inl ⟨_, SqL.of (z1 _ _ q3), el.symm⟩, _, _, rfl, rfl, by omega,
          b, _, _, _, rfl, rfl, SqL.of (z1 _ _ q3), at_of (by rw [Int.natCast_emod]) hu2, u, rfl, sx_new S1 hz, D1.new hz⟩⟩
    rintro σ H2 ⟨sd, rfl, S2, D2⟩
    refine ⟨fun σ H3 => ∃ (fd rc : Int), σ = [some (.ref d), some (iv n), some (.int fd), some (.int sd), some (.int rc)] ∧ SameX [d, a] H H3 ∧ Dr H3 d a b (c + 1), ⟨fun m σ H3 => ∃ (fd rc : Int), σ = [some (.ref d), some (iv n), some (.int fd), some (.int sd), some (.int rc)] ∧ SameX [d, a] H H3 ∧ Dr H3 d a b (c + 1) ∧ ((m = 1 ∧ fd = 0 ∧ rc = 1) ∨ (m = 0 ∧ rc = 1000000007)), ⟨1, _, _, rfl, S2, D2, .inl ⟨rfl, rfl, rfl⟩⟩, ?_⟩, ?_⟩
    · rintro m σ H3 ⟨fd, rc, rfl, S3, D3, hm⟩
      refine ⟨_, rfl, _, rfl, _, _, rfl, rfl, _, rfl, iteD (fun lt => ?_) fun _ => ⟨_, _, rfl, S3, D3⟩⟩
      rcases hm with ⟨rfl, rfl, rfl⟩ | ⟨rfl, rfl⟩
      · obtain ⟨x, as, bs, q1, q2, q3, q4⟩ := id D3
        refine ⟨fun σ H3 => ∃ (fd : Int), σ = [some (.ref d), some (iv n), some (.int fd), some (.int sd), some (.int 1000000007)] ∧ SameX [d, a] H H3 ∧ Dr H3 d a b (c + 1), fun σ H4 ⟨fd, e1, e2, e3⟩ => ⟨0, by decide, fd, _, e1, e2, e3, .inr ⟨rfl, rfl⟩⟩, ?_⟩
        refine ⟨_, rfl, _, _, rfl, rfl, .inr ⟨by decide, by decide⟩, _, rfl, _, rfl, d, _, _, _, rfl, rfl, SqL.of q1, at_of (j := 3) rfl rfl, _, rfl, .inl ⟨_, rfl, _, _, rfl, rfl, by show (0 : Int) < 97; decide, _, _, rfl, rfl, .inl ⟨by decide, by decide⟩, _, _, rfl, rfl, sd, c + 1, rfl, by omega, fun r hr => ⟨_, _, rfl, rfl, _, rfl, _, _, rfl, rfl, .inr ⟨by decide, by decide⟩, _, rfl, S3, D3⟩⟩⟩
      · omega
    · rintro σ H3 ⟨fd, rc, rfl, S3, D3⟩
      exact ⟨_, rfl, .inl ⟨_, rfl, _, rfl, _, _, rfl, rfl, by show (0 : Int) < (n : Int); omega, fin _ _ S3 D3⟩⟩
end
end TwK

set_option Elab.async false
set_option linter.all false
set_option maxRecDepth 100000
set_option maxHeartbeats 2000000
set_option pp.deepTerms false
set_option pp.deepTerms.threshold 6
namespace TwK
open PySem PySem.Spec PyProof.Rows L2 SX
section
variable {P : Program} {w : World} {K : PySem.W.Frag} {mg : Str → Option Value} {base : Heap}
theorem sc_pick : FnScope ["_law_draws_here", "_law_some"] ["_law_draws_here", "_law_some"] (defScope sLawPick) := ⟨rfl, rfl, rfl, by decide +kernel, rfl, by decide +kernel, by decide +kernel⟩
def spPick : Sp := fun vs H Q _ => ∃ (d a b : Addr) (c : Nat) (v : V), vs = [.ref d, v] ∧ Dr H d a b c ∧ c ≤ 8000000 ∧
  ((∃ l : List Nat, v = tv l ∧ l ≠ [] ∧ l.length ≤ 1000 ∧ ∀ (H' : Hp) (s : Nat), SameX [d, a] H H' → Dr H' d a b (c + 1) → Q (tv [s]) H') ∨
   (∃ (p : Addr) (xs : List V), v = .ref p ∧ H p = some (.lst xs) ∧ p ∉ [d, a] ∧ xs ≠ [] ∧ xs.length ≤ 1000 ∧ ∀ (H' : Hp) (x : V), SameX [d, a] H H' → Dr H' d a b (c + 1) → x ∈ xs → Q x H'))
theorem ok_pick (T : TX K mg) (ct : C8.Cal P w K mg base 2 "_law_take" spTake []) : C8.Cal P w K mg base 3 "_law_pick" spPick [] := by
  refine calN T.f_LawPick T.g__law_pick sc_pick (fun _ _ _ _ _ _ us hl => match us, hl with | [_, _], _ => rfl) (fun vs H Q E h => ?_) (fun cdv A outer s H vs Q E hr h => ?_)
  · obtain ⟨d, a, b, c, v, rfl, _⟩ := h
    rfl
  · obtain ⟨d, a, b, c, v, rfl, D, hc, h⟩ := h
    refine ⟨_, (pss_one (ps_ret (pe_ix (ix_list.or ix_str) (pv 1) (C8.pe_c ct hr (by decide) rfl (pa_cons (pv 0) (pa_cons (pe_callB call_len (by rfl) T.n_len PySem.boot_len (pa_cons (pv 1) pa_nil)) pa_nil))) (fun _ _ => rfl)))), ?_⟩
    rcases h with ⟨l, rfl, hl, hl2, k⟩ | ⟨p, xs, rfl, hp, hpn, hx, hx2, k⟩
    · have l0 : 0 < l.length := List.length_pos_iff.mpr hl
      refine ⟨_, rfl, _, rfl, _, rfl, _, l.length, rfl, ⟨S_line hl2, (S_len l).symm⟩, d, a, b, l.length, c, rfl, D, by omega, by omega, hc, fun H2 r s2 d2 hr2 => ?_⟩
      refine .inr ⟨_, _, _, rfl, rfl, by rw [S_len]; exact line1000 hl2, atI_nat (List.getElem?_eq_getElem hr2), k H2 _ s2 d2⟩
    · have l0 : 0 < xs.length := List.length_pos_iff.mpr hx
      refine ⟨_, rfl, _, rfl, _, rfl, _, xs.length, rfl, .inl ⟨_, SqL.of hp, rfl⟩, d, a, b, xs.length, c, rfl, D, by omega, by omega, hc, fun H2 r s2 d2 hr2 => ?_⟩
      refine .inl ⟨p, xs, _, _, rfl, rfl, SqL.of (s2 p _ hpn hp), atI_nat (List.getElem?_eq_getElem hr2), k H2 _ s2 d2 (List.getElem_mem _)⟩
theorem sc_text : FnScope ["_law_draws_here", "_law_most", "_law_signs", "_law_k"] ["_law_draws_here", "_law_most", "_law_signs"] (defScope sLawText) := ⟨rfl, rfl, rfl, by decide +kernel, rfl, by decide +kernel, by decide +kernel⟩
def spText : Sp := fun vs H Q _ => ∃ (d a b : Addr) (c m : Nat) (sg : List Nat), vs = [.ref d, iv m, tv sg] ∧ Dr H d a b c ∧ c ≤ 7000000 ∧ m ≤ 900 ∧ sg ≠ [] ∧ sg.length ≤ 1000 ∧
  ∀ (H' : Hp) (c' : Nat) (l : Ln), SameX [d, a] H H' → Dr H' d a b c' → c' ≤ c + m + 1 → l.length ≤ m → Q (tv l) H'
theorem ok_text (T : TX K mg) (ct : C8.Cal P w K mg base 2 "_law_take" spTake []) (cp : C8.Cal P w K mg base 3 "_law_pick" spPick []) : C8.Cal P w K mg base 4 "_law_text" spText [] := by
  refine calN T.f_LawText T.g__law_text sc_text (fun _ _ _ _ _ _ us hl => match us, hl with | [_, _, _], _ => rfl) (fun vs H Q E h => ?_) (fun cdv A outer s H vs Q E hr h => ?_)
  · obtain ⟨d, a, b, c, m, sg, rfl, _⟩ := h
    rfl
  · obtain ⟨d, a, b, c, m, sg, rfl, D, hc, hm, hs, hs2, k⟩ := h
    have nd := sc_text.nd
    refine ⟨_, (pss_one (ps_ret (pe_bm PySem.F.plainAttrs_str PySem.F.slot_str_join PySem.F.type_str_join mt_join pe_str (pa_cons (pe_lc (own := [("_law_k", 3)]) (g := gName 3) (te := tCall spPick [] C8.E0 (tCons (tVar 0) (tCons (tVar 2) tNil))) (by rfl) nd (pi_range1 (by rfl) T.n_range (pa_cons (C8.pe_c ct hr (by decide) rfl (pa_cons (pv 0) (pa_cons (pe_op op_add (pv 1) pe_int) pa_nil))) pa_nil)) (blkOk_by (own := [("_law_k", 3)]) (N := ["_law_draws_here", "_law_most", "_law_signs", "_law_k"]) (sc := defScope sLawText) (by decide +kernel)) (fun _ _ _ _ _ => (pg_name (i := 3) nd rfl (.inl rfl))) (fun _ _ _ _ _ => pts_nil) (fun _ _ _ _ _ => by exact (C8.pe_c cp hr (by decide) rfl (pa_cons (pv 0) (pa_cons (pv 2) pa_nil))))) pa_nil)))), ?_⟩
    refine ⟨rfl, _, rfl, _, rfl, _, _, rfl, rfl, d, a, b, m + 1, c, rfl, D, by omega, by omega, by omega, fun H1 r s1 d1 hr1 => ⟨(r : Int), rfl, by omega, by omega, fun f hf => ?_⟩⟩
    have er : ((r : Nat) : Int).toNat = r := by omega
    rw [er]
    have B0 : BX d a b H (upd H1 f (.lst [])) f [] := BX.start s1 D d1 hf
    refine lc_range (n := r) (fun i H2 => ∃ ls : List Ln, BX d a b H H2 f (ls.map tv) ∧ Dr H2 d a b (c + 1 + i) ∧ ls.length = i ∧ ∀ l ∈ ls, l.length = 1) ⟨[], B0, d1.new hf, rfl, fun l hl => nomatch hl⟩ ?_ ?_
    · rintro i H2 hi ⟨ls, B, d2, el, hls⟩
      refine ⟨rfl, _, rfl, _, rfl, d, a, b, c + 1 + i, _, rfl, d2, by omega, .inl ⟨sg, rfl, hs, hs2, fun H3 ch s3 d3 => ⟨_, (B.call s3).at_, by rw [List.length_map, el, sizeLine_eq]; omega, ?_⟩⟩⟩
      refine ⟨ls ++ [[ch]], ?_, (B.call s3).dr d3, by rw [List.length_append, el]; rfl, fun l hl => ?_⟩
      · rw [List.map_append]
        exact (B.call s3).push
      · rcases List.mem_append.mp hl with q | q
        · exact hls l q
        · rw [List.mem_singleton.mp q]
          rfl
    · rintro H2 ⟨ls, B, d2, el, hls⟩
      have len : ∀ ls : List Ln, (∀ l ∈ ls, l.length = 1) → (TL.joinL [] ls).length = ls.length ∧ (ls.map (·.length)).sum = ls.length := by
        intro ls
        induction ls with
        | nil => exact fun _ => ⟨rfl, rfl⟩
        | cons x xs ih =>
          intro h
          have hx := h x (List.mem_cons_self ..)
          obtain ⟨i1, i2⟩ := ih fun l hl => h l (List.mem_cons_of_mem _ hl)
          refine ⟨?_, by rw [List.map_cons, List.sum_cons, i2, hx, List.length_cons]; omega⟩
          cases xs with
          | nil => exact hx
          | cons y ys =>
            show (x ++ ([] ++ TL.joinL [] (y :: ys))).length = _
            rw [List.nil_append, List.length_append, i1, hx]
            simp only [List.length_cons]
            omega
      obtain ⟨l1, l2⟩ := len ls hls
      refine ⟨S [], f, ls.map S, rfl, rfl, .inl ?_, ?_, ?_⟩
      · rw [List.map_map]
        exact SqL.of B.at_
      · rw [lens, l2]
        show ls.length + (ls.map S).length * 0 ≤ _
        omega
      · rw [join_S]
        exact k H2 _ _ B.same d2 (by omega) (by omega)
end
end TwK

set_option Elab.async false
set_option linter.all false
set_option maxRecDepth 100000
set_option maxHeartbeats 2000000
set_option pp.deepTerms false
set_option pp.deepTerms.threshold 6
namespace TwK
open PySem PySem.Spec PyProof.Rows L2 SX
section
variable {P : Program} {w : World} {K : PySem.W.Frag} {mg : Str → Option Value} {base : Heap}
theorem sc_line : FnScope ["_law_draws_here", "_law_most", "_law_signs", "_law_text_here"] ["_law_draws_here", "_law_most", "_law_signs"] (defScope sLawLine) := ⟨rfl, rfl, rfl, by decide +kernel, rfl, by decide +kernel, by decide +kernel⟩
def spLine : Sp := fun vs H Q _ => ∃ (d a b : Addr) (c m : Nat) (sg : List Nat), vs = [.ref d, iv m, tv sg] ∧ Dr H d a b c ∧ c ≤ 6000000 ∧ m ≤ 900 ∧ sg ≠ [] ∧ sg.length ≤ 1000 ∧
  ∀ (H' : Hp) (c' : Nat) (l : Ln), SameX [d, a] H H' → Dr H' d a b c' → c' ≤ c + m + 2 → l ≠ [] → l.length ≤ m + 1 → Q (tv l) H'
theorem ok_line (T : TX K mg) (ct : C8.Cal P w K mg base 2 "_law_take" spTake []) (cx : C8.Cal P w K mg base 4 "_law_text" spText []) : C8.Cal P w K mg base 5 "_law_line" spLine [] := by
  refine calN T.f_LawLine T.g__law_line sc_line (fun _ _ _ _ _ _ us hl => match us, hl with | [_, _, _], _ => rfl) (fun vs H Q E h => ?_) (fun cdv A outer s H vs Q E hr h => ?_)
  · obtain ⟨d, a, b, c, m, sg, rfl, _⟩ := h
    rfl
  · obtain ⟨d, a, b, c, m, sg, rfl, D, hc, hm, hs, hs2, k⟩ := h
    have nd := sc_line.nd
    refine ⟨_, (pss_cons (ps_set (i := 3) nd rfl (.inl rfl) (C8.pe_c cx hr (by decide) rfl (pa_cons (pv 0) (pa_cons (pv 1) (pa_cons (pv 2) pa_nil)))))
  (pss_one (ps_ret (pe_op op_add_str (pv 3) (pe_op op_mul01 pe_str (pe_callTy call_int1 (by rfl) T.n_int (by decide +kernel) (pa_cons (pe_or (pe_cmpR op_eq (pv 3) pe_str (nomark _)) (pe_one (pe_cmpR op_gt (C8.pe_c ct hr (by decide) rfl (pa_cons (pv 0) (pa_cons pe_int pa_nil))) pe_int (nomark _)))) pa_nil))))))), ?_⟩
    refine ⟨_, rfl, _, rfl, _, rfl, d, a, b, c, m, sg, rfl, D, by omega, hm, hs, hs2, fun H1 c1 l s1 d1 lc1 ll => ?_⟩
    have fin : ∀ (H2 : Hp) (c2 : Nat) (e : Ln), SameX [d, a] H H2 → Dr H2 d a b c2 → c2 ≤ c + m + 2 → e.length ≤ 1 → l ++ e ≠ [] → (S l).length + (S e).length ≤ sizeLine ∧ Q (.str (S l ++ S e)) H2 := fun H2 c2 e s2 d2 l2 le ne => by
      refine ⟨by rw [S_len, S_len, sizeLine_eq]; omega, ?_⟩
      rw [S_cat]
      exact k H2 c2 _ s2 d2 l2 ne (by rw [List.length_append]; omega)
    have ll10 : (S [10]).length ≤ 1000 := by rw [S_len]; decide
    refine ⟨_, rfl, _, rfl, rfl, _, rfl, iteD (fun e => ?_) fun e => ?_⟩
    · exact .inr ⟨true, rfl, S [10], _, rfl, rfl, ll10, .inr ⟨rfl, _, _, rfl, rfl, fin H1 c1 [10] s1 d1 (by omega) (Nat.le_refl _) (by simp)⟩⟩
    · refine ⟨_, rfl, d, a, b, 7, c1, rfl, d1, by omega, by omega, by omega, fun H2 r s2 d2 hr2 => ⟨_, _, rfl, rfl, .inr ⟨_, rfl, S [10], _, rfl, rfl, ll10, ?_⟩⟩⟩
      have nl : l ≠ [] := fun z => e (by rw [z]; rfl)
      by_cases g : (r : Int) > 0
      · exact .inr ⟨by rw [decide_eq_true g]; rfl, _, _, rfl, rfl, fin H2 (c1 + 1) [10] (sx_trans s1 s2) d2 (by omega) (Nat.le_refl _) (by simp)⟩
      · exact .inl ⟨by rw [decide_eq_false g]; rfl, _, _, rfl, rfl, fin H2 (c1 + 1) [] (sx_trans s1 s2) d2 (by omega) (Nat.zero_le _) (by simpa using nl)⟩
end
end TwK

set_option Elab.async false
set_option linter.all false
set_option maxRecDepth 100000
set_option maxHeartbeats 2000000
set_option pp.deepTerms false
set_option pp.deepTerms.threshold 6
namespace TwK
open PySem PySem.Spec PyProof.Rows L2 SX
section
variable {P : Program} {w : World} {K : PySem.W.Frag} {mg : Str → Option Value} {base : Heap}
theorem sc_near : FnScope ["_law_draws_here", "_law_line_here", "_law_signs", "_law_text_here", "_law_k", "_law_at", "_law_way", "_law_end"] ["_law_draws_here", "_law_line_here", "_law_signs"] (defScope sLawNearLine) := ⟨rfl, rfl, rfl, by decide +kernel, rfl, by decide +kernel, by decide +kernel⟩
def spNear : Sp := fun vs H Q _ => ∃ (d a b : Addr) (c : Nat) (l : Ln) (sg : List Nat), vs = [.ref d, tv l, tv sg] ∧ Dr H d a b c ∧ c ≤ 5000000 ∧ l ≠ [] ∧ l.length ≤ 900 ∧ sg ≠ [] ∧ sg.length ≤ 1000 ∧
  ∀ (H' : Hp) (c' : Nat) (l' : Ln), SameX [d, a] H H' → Dr H' d a b c' → c' ≤ c + 8 → l' ≠ [] → l'.length ≤ l.length + 2 → Q (tv l') H'
theorem ok_near (T : TX K mg) (ct : C8.Cal P w K mg base 2 "_law_take" spTake []) (cp : C8.Cal P w K mg base 3 "_law_pick" spPick []) : C8.Cal P w K mg base 4 "_law_near_line" spNear [] := by
  refine calN T.f_LawNearLine T.g__law_near_line sc_near (fun _ _ _ _ _ _ us hl => match us, hl with | [_, _, _], _ => rfl) (fun vs H Q E h => ?_) (fun cdv A outer s H vs Q E hr h => ?_)
  · obtain ⟨d, a, b, c, l, sg, rfl, _⟩ := h
    rfl
  · obtain ⟨d, a, b, c, l, sg, rfl, D, hc, hl, hl2, hs, hs2, k⟩ := h
    have nd := sc_near.nd
    refine ⟨_, (C8.pss_cut (ps_set (i := 3) nd rfl (.inl rfl) (pe_ifExp (pt_cmpR op_eq (pe_slice C8.sl_txt (pv 1) (po_some (pe_un un_neg pe_int)) po_none) pe_str (nomark _)) (pe_slice C8.sl_txt (pv 1) po_none (po_some (pe_un un_neg pe_int))) (pv 1)))
  (C8.pss_cut (ps_for PassesOwn.never rfl (pi_range1 (by rfl) T.n_range (pa_cons (pe_op op_add pe_int (C8.pe_c ct hr (by decide) rfl (pa_cons (pv 0) (pa_cons pe_int pa_nil)))) pa_nil)) (pg_name (i := 4) nd rfl (.inl rfl))
  (pss_cons (ps_par (i := 5) (j := 6) (by rfl) nd rfl rfl (by decide) rfl rfl (pa_cons (C8.pe_c ct hr (by decide) rfl (pa_cons (pv 0) (pa_cons (pe_op op_add (pe_callB call_len (by rfl) T.n_len PySem.boot_len (pa_cons (pv 3) pa_nil)) pe_int) pa_nil))) (pa_cons (C8.pe_c ct hr (by decide) rfl (pa_cons (pv 0) (pa_cons pe_int pa_nil))) pa_nil)) (by rfl))
  (pss_one (ps_if (pt_cmpR op_lt (pv 6) pe_int (nomark _)) (pss_one (ps_set (i := 3) nd rfl (.inl rfl) (pe_op op_add_str (pe_op op_add_str (pe_slice C8.sl_txt (pv 3) po_none (po_some (pv 5))) (pe_ix ix_list (pe_lst (pa_cons pe_str (pa_cons (C8.pe_c cp hr (by decide) rfl (pa_cons (pv 0) (pa_cons (pv 2) pa_nil))) (pa_cons pe_str pa_nil)))) (pv 6) (fun _ _ => rfl))) (pe_slice C8.sl_txt (pv 3) (po_some (pe_op op_add (pv 5) (pe_ix ix_list (pe_lst (pa_cons pe_int (pa_cons pe_int (pa_cons pe_int pa_nil)))) (pv 6) (fun _ _ => rfl)))) po_none)))) (pss_one (ps_set (i := 3) nd rfl (.inl rfl) (pe_op op_add_str (pe_slice C8.sl_txt (pv 3) po_none (po_some (pv 5))) (pe_revS (pe_slice C8.sl_txt (pv 3) (po_some (pv 5)) po_none)))))))))
  (C8.pss_cut (ps_set (i := 7) nd rfl (.inl rfl) (pe_ifExp (PW.pt (pw_and (pt_cmpR op_eq (pe_slice C8.sl_txt (pv 1) (po_some (pe_un un_neg pe_int)) po_none) pe_str (nomark _)) (pw_and1 (pt_cmpR op_gt (C8.pe_c ct hr (by decide) rfl (pa_cons (pv 0) (pa_cons pe_int pa_nil))) pe_int (nomark _))))) (pe_slice C8.sl_txt (pv 1) (po_some (pe_un un_neg pe_int)) po_none) pe_str))
  (pss_one (ps_ret (pe_ifExp (pt_cmpR op_ne (pe_op op_add_str (pv 3) (pv 7)) pe_str (nomark _)) (pe_op op_add_str (pv 3) (pv 7)) pe_str)))))), ?_⟩
    have sz : ∀ {l : Ln}, l.length ≤ 1000 → (S l).length ≤ sizeLine := fun h => S_line h
    -- the last sign
    obtain ⟨last, hlast⟩ : ∃ last : Ln, last = l.drop (l.length - 1) := ⟨_, rfl⟩
    have l0 : 0 < l.length := List.length_pos_iff.mpr hl
    have llen : last.length = 1 := by rw [hlast, List.length_drop]; omega
    have esl : Txt.slice (S l) (some (-1)) none = S last := by rw [hlast]; exact slice_last hl
    have ebl : Txt.slice (S l) none (some (-1)) = S (l.take (l.length - 1)) := slice_butlast hl
    obtain ⟨e0, he0⟩ : ∃ e0 : Nat, e0 = if decide (V.str (S last) = .str "\n") = true then 1 else 0 := ⟨_, rfl⟩
    refine ⟨fun σ H' => ∃ t : Ln, σ = [some (.ref d), some (tv l), some (tv sg), some (tv t), none, none, none, none] ∧ H = H' ∧ t.length + e0 ≤ l.length, ?_, ?_⟩
    · refine ⟨_, rfl, 1, rfl, -1, rfl, S l, rfl, sz (by omega), ?_⟩
      rw [esl]
      refine ⟨rfl, _, rfl, iteB (fun e => ?_) fun e => ?_⟩
      · refine ⟨_, rfl, 1, rfl, -1, rfl, S l, rfl, sz (by omega), ?_⟩
        rw [ebl]
        refine ⟨_, rfl, rfl, ?_⟩
        rw [he0, if_pos e, List.length_take]
        omega
      · refine ⟨_, rfl, _, rfl, rfl, ?_⟩
        rw [he0, if_neg (by rw [e]; exact Bool.false_ne_true)]
        omega
    rintro σ H0 ⟨t0, rfl, rfl, ht0⟩
    refine ⟨fun σ H' => ∃ (t : Ln) (c' : Nat) (v4 v5 v6 : Option V), σ = [some (.ref d), some (tv l), some (tv sg), some (tv t), v4, v5, v6, none] ∧ SameX [d, a] H H' ∧ Dr H' d a b c' ∧ c' ≤ c + 7 ∧ t.length + e0 ≤ l.length + 2, ?_, ?_⟩
    · refine ⟨_, rfl, d, a, b, 2, c, rfl, D, by omega, by omega, by omega, fun H1 r s1 d1 hr1 => ⟨_, _, rfl, rfl, (1 : Int) + (r : Int), rfl, by omega, by omega, ?_⟩⟩
      have er : ((1 : Int) + (r : Int)).toNat = 1 + r := by omega
      rw [er]
      refine for_range (n := 1 + r) (fun i σ H' => ∃ (t : Ln) (c' : Nat) (v4 v5 v6 : Option V), σ = [some (.ref d), some (tv l), some (tv sg), some (tv t), v4, v5, v6, none] ∧ SameX [d, a] H H' ∧ Dr H' d a b c' ∧ c' ≤ c + 1 + 3 * i ∧ t.length + e0 ≤ l.length + i) ⟨_, _, _, _, _, rfl, s1, d1, by omega, by omega⟩ ?_ ?_
      · rintro i σ H2 hi ⟨t, c2, v4, v5, v6, rfl, s2, d2, lc2, lt⟩
        have hi2 : i ≤ 1 := by omega
        refine ⟨_, rfl, _, rfl, _, t.length, rfl, ⟨sz (by omega), (S_len t).symm⟩, _, _, rfl, rfl, d, a, b, t.length + 1, c2, rfl, d2, by omega, by omega, by omega, fun H3 at_ s3 d3 hat => ⟨_, rfl, d, a, b, 4, c2 + 1, rfl, d3, by omega, by omega, by omega, fun H4 way s4 d4 hway => ⟨_, _, rfl, ?_⟩⟩⟩
        have s24 := sx_trans s2 (sx_trans s3 s4)
        have eto : Txt.slice (S t) none (some (at_ : Int)) = S (t.take at_) := by
          rw [slice_to (by omega)]
          rfl
        have fin : ∀ (e : Ln) (j : Nat), e.length ≤ 1 → (S (t.take at_)).length + (S e).length ≤ sizeLine ∧ (S (t.take at_) ++ S e).length + (S (t.drop (at_ + j))).length ≤ sizeLine ∧ ∃ t2 : Ln, S (t.take at_) ++ S e ++ S (t.drop (at_ + j)) = S t2 ∧ t2.length + e0 ≤ l.length + (i + 1) := fun e j he => by
          have q1 : (t.take at_ ++ e ++ t.drop (at_ + j)).length ≤ t.length + 1 := by
            rw [List.length_append, List.length_append, List.length_take, List.length_drop]
            omega
          have q2 : (t.take at_ ++ e).length ≤ t.length + 1 := by
            rw [List.length_append, List.length_take]
            omega
          have q3 := List.length_append (as := t.take at_) (bs := e)
          refine ⟨by rw [S_len, S_len, sizeLine_eq]; omega, by rw [S_cat, S_len, S_len, List.length_drop, sizeLine_eq]; omega, t.take at_ ++ e ++ t.drop (at_ + j), by rw [S_cat, S_cat], by omega⟩
        refine ⟨_, rfl, _, _, rfl, rfl, _, rfl, iteD (fun g => ?_) fun g => ?_⟩
        · have w3 : way < 3 := by omega
          have pick : ∀ ch : Nat, ∃ (e : Ln) (j : Nat), e.length ≤ 1 ∧ [V.str (S []), tv [ch], V.str (S [120])][way]? = some (tv e) ∧ [V.int 1, V.int 0, V.int 1][way]? = some (iv j) := fun ch => by
            match way, w3 with
            | 0, _ => exact ⟨[], 1, by decide, rfl, rfl⟩
            | 1, _ => exact ⟨[ch], 0, by simp, rfl, rfl⟩
            | 2, _ => exact ⟨[120], 1, by decide, rfl, rfl⟩
          refine ⟨_, rfl, _, rfl, _, rfl, S t, rfl, sz (by omega), ?_⟩
          refine ⟨_, rfl, _, rfl, d, a, b, c2 + 2, _, rfl, d4, by omega, .inl ⟨sg, rfl, hs, hs2, fun H5 ch s5 d5 => ?_⟩⟩
          obtain ⟨e, j, he, hE, hJ⟩ := pick ch
          obtain ⟨f1, f2, t2, f3, f4⟩ := fin e j he
          have efr : Txt.slice (S t) (some ((at_ : Int) + (j : Int))) none = S (t.drop (at_ + j)) := by
            rw [slice_from (by omega)]
            rfl
          refine ⟨sl3, fun f hf => ⟨_, rfl, f, _, _, tv e, rfl, rfl, SqL.of upd_same, at_of rfl hE, _, _, congrArg V.str eto, rfl, f1, _, rfl, _, rfl, sl3, fun g hg => ⟨_, rfl, g, _, _, iv j, rfl, rfl, SqL.of upd_same, at_of rfl hJ, _, _, rfl, rfl, _, rfl, S t, rfl, sz (by omega), _, _, rfl, congrArg V.str efr, f2, ?_⟩⟩⟩
          rw [f3]
          exact ⟨t2, c2 + 3, _, _, _, rfl, sx_new (sx_new (sx_trans s24 s5) hf) hg, (d5.new hf).new hg, by omega, f4⟩
        · have efr : Txt.slice (S t) (some (at_ : Int)) none = S (t.drop at_) := by
            rw [slice_from (by omega)]
            rfl
          refine ⟨_, rfl, _, rfl, _, rfl, S t, rfl, sz (by omega), _, rfl, _, rfl, _, rfl, S t, rfl, sz (by omega), t.drop at_, congrArg V.str efr, by rw [List.length_drop]; omega, fun l2 hl2 => ⟨_, _, congrArg V.str eto, rfl, ?_, ?_⟩⟩
          · rw [S_len, S_len, hl2, List.length_take, List.length_drop, sizeLine_eq]
            omega
          · rw [S_cat]
            refine ⟨t.take at_ ++ l2, c2 + 2, _, _, _, rfl, s24, d4, by omega, ?_⟩
            rw [List.length_append, hl2, List.length_take, List.length_drop]
            omega
      · rintro σ H2 ⟨t, c2, v4, v5, v6, rfl, s2, d2, lc2, lt⟩
        exact ⟨t, c2, v4, v5, v6, rfl, s2, d2, by omega, by omega⟩
    rintro σ H2 ⟨t, c2, v4, v5, v6, rfl, s2, d2, lc2, lt⟩
    refine ⟨fun σ H3 => ∃ (c3 : Nat) (e : Ln) (v4 v5 v6 : Option V), σ = [some (.ref d), some (tv l), some (tv sg), some (tv t), v4, v5, v6, some (tv e)] ∧ SameX [d, a] H H3 ∧ Dr H3 d a b c3 ∧ c3 ≤ c + 8 ∧ e.length ≤ e0, ?_, ?_⟩
    · refine ⟨_, rfl, 1, rfl, -1, rfl, S l, rfl, sz (by omega), ?_⟩
      rw [esl]
      refine ⟨rfl, _, rfl, iteB (fun e => ?_) fun e => ?_⟩
      · rw [e] at he0
        refine ⟨_, rfl, d, a, b, 12, c2, rfl, d2, by omega, by omega, by omega, fun H3 r s3 d3 hr3 => ⟨_, _, rfl, rfl, _, rfl, iteD (fun g => ?_) fun g => ?_⟩⟩
        · refine ⟨_, rfl, 1, rfl, -1, rfl, S l, rfl, sz (by omega), ?_⟩
          rw [esl]
          exact ⟨c2 + 1, last, _, _, _, rfl, sx_trans s2 s3, d3, by omega, by rw [he0, llen]; decide⟩
        · exact ⟨c2 + 1, [], _, _, _, rfl, sx_trans s2 s3, d3, by omega, Nat.zero_le _⟩
      · exact ⟨c2, [], _, _, _, rfl, s2, d2, by omega, Nat.zero_le _⟩
    rintro σ H3 ⟨c3, e, v4, v5, v6, rfl, s3, d3, lc3, le⟩
    have l1 := List.length_append (as := t) (bs := e)
    have hsz : (S t).length + (S e).length ≤ sizeLine := by
      rw [S_len, S_len, sizeLine_eq]
      omega
    refine ⟨_, rfl, _, rfl, _, _, rfl, rfl, hsz, ?_⟩
    rw [S_cat]
    refine ⟨rfl, _, rfl, iteNd (fun g => ?_) fun g => ?_⟩
    · refine ⟨_, rfl, _, rfl, _, _, rfl, rfl, hsz, ?_⟩
      rw [S_cat]
      exact k H3 c3 _ s3 d3 lc3 (fun z => g (by rw [z]; rfl)) (by omega)
    · exact k H3 c3 [10] s3 d3 lc3 (by simp) (by show 1 ≤ _; omega)
end
end TwK

set_option Elab.async false
set_option linter.all false
set_option maxRecDepth 100000
set_option maxHeartbeats 2000000
set_option pp.deepTerms false
set_option pp.deepTerms.threshold 6
namespace TwK
open PySem PySem.Spec PyProof.Rows L2 SX
/-- lines of at most n signs, none of them empty -/
def Nl (n : Nat) (ls : List Ln) : Prop := ∀ l ∈ ls, l ≠ [] ∧ l.length ≤ n
theorem Nl.up {n m : Nat} {ls : List Ln} (h : Nl n ls) (g : n ≤ m) : Nl m ls := fun l hl => ⟨(h l hl).1, Nat.le_trans (h l hl).2 g⟩
theorem Nl.snoc {n : Nat} {ls : List Ln} {l : Ln} (h : Nl n ls) (g : l ≠ []) (g2 : l.length ≤ n) : Nl n (ls ++ [l]) := fun x hx => by
  rcases List.mem_append.mp hx with q | q
  · exact h x q
  · rw [List.mem_singleton.mp q]
    exact ⟨g, g2⟩
theorem Nl.app {n : Nat} {ls ms : List Ln} (h : Nl n ls) (g : Nl n ms) : Nl n (ls ++ ms) := fun x hx => (List.mem_append.mp hx).elim (h x) (g x)
theorem Nl.nil {n : Nat} : Nl n [] := fun x hx => nomatch hx
theorem BX.pushL {d a b f : Addr} {H0 H : Hp} {ls : List Ln} {l : Ln} (B : BX d a b H0 H f (ls.map tv)) : BX d a b H0 (upd H f (.lst (ls.map tv ++ [tv l]))) f ((ls ++ [l]).map tv) := by
  rw [List.map_append]
  exact B.push
theorem lsz {ls : List Ln} (h : ls.length ≤ 1000) : (ls.map tv).length < sizeLine := by
  rw [List.length_map, sizeLine_eq]
  omega
section
variable {P : Program} {w : World} {K : PySem.W.Frag} {mg : Str → Option Value} {base : Heap}
theorem sc_lines : FnScope ["_law_draws_here", "_law_most", "_law_long", "_law_signs", "_law_found", "_law_k", "_law_way", "_law_one"] ["_law_draws_here", "_law_most", "_law_long", "_law_signs"] (defScope sLawLines) := ⟨rfl, rfl, rfl, by decide +kernel, rfl, by decide +kernel, by decide +kernel⟩
def spLines : Sp := fun vs H Q _ => ∃ (d a b : Addr) (c : Nat) (sg : List Nat), vs = [.ref d, .int 10, .int 7, tv sg] ∧ Dr H d a b c ∧ c ≤ 3000000 ∧ sg ≠ [] ∧ sg.length ≤ 1000 ∧
  ∀ (H' : Hp) (c' : Nat) (f : Addr) (ls : List Ln), BX d a b H H' f (ls.map tv) → Dr H' d a b c' → c' ≤ c + 300 → ls.length ≤ 10 → Nl 30 ls → Q (.ref f) H'
theorem ok_lines (T : TX K mg) (ct : C8.Cal P w K mg base 2 "_law_take" spTake []) (cp : C8.Cal P w K mg base 3 "_law_pick" spPick []) (cl : C8.Cal P w K mg base 5 "_law_line" spLine []) (cn : C8.Cal P w K mg base 4 "_law_near_line" spNear []) : C8.Cal P w K mg base 6 "_law_lines" spLines [] := by
  refine calN T.f_LawLines T.g__law_lines sc_lines (fun _ _ _ _ _ _ us hl => match us, hl with | [_, _, _, _], _ => rfl) (fun vs H Q E h => ?_) (fun cdv A outer s H vs Q E hr h => ?_)
  · obtain ⟨d, a, b, c, sg, rfl, _⟩ := h
    rfl
  · obtain ⟨d, a, b, c, sg, rfl, D, hc, hs, hs2, k⟩ := h
    have nd := sc_lines.nd
    refine ⟨_, (pss_cons (ps_set (i := 4) nd rfl (.inl rfl) (pe_lst pa_nil))
  (C8.pss_cut (ps_for PassesOwn.never rfl (pi_range1 (by rfl) T.n_range (pa_cons (C8.pe_c ct hr (by decide) rfl (pa_cons (pv 0) (pa_cons (pe_op op_add (pv 1) pe_int) pa_nil))) pa_nil)) (pg_name (i := 5) nd rfl (.inl rfl))
  (C8.pss_cut (ps_set (i := 6) nd rfl (.inl rfl) (pe_ifExp (pt_cmpR (op_neE hr.units0) (pv 4) (pe_lst pa_nil) (nomark _)) (C8.pe_c ct hr (by decide) rfl (pa_cons (pv 0) (pa_cons pe_int pa_nil))) pe_int))
  (pss_one (ps_if (pt_cmpR op_lt (pv 6) pe_int (nomark _)) (pss_one (ps_expr (pe_bm PySem.F.plainAttrs_list PySem.F.slot_list_append PySem.F.type_list_append mt_append (pv 4) (pa_cons (C8.pe_c cl hr (by decide) rfl (pa_cons (pv 0) (pa_cons (pv 2) (pa_cons (pv 3) pa_nil)))) pa_nil)))) (pss_cons (ps_set (i := 7) nd rfl (.inl rfl) (C8.pe_c cp hr (by decide) rfl (pa_cons (pv 0) (pa_cons (pv 4) pa_nil))))
  (pss_one (ps_expr (pe_bm PySem.F.plainAttrs_list PySem.F.slot_list_append PySem.F.type_list_append mt_append (pv 4) (pa_cons (pe_ifExp (pt_cmpR op_eq (pv 6) pe_int (nomark _)) (pv 7) (C8.pe_c cn hr (by decide) rfl (pa_cons (pv 0) (pa_cons (pv 7) (pa_cons (pv 3) pa_nil))))) pa_nil)))))))))
  (pss_one (ps_ret (pv 4))))), ?_⟩
    refine ⟨Nat.zero_le _, fun f hf => ?_⟩
    have B0 : BX d a b H (upd H f (.lst [])) f [] := BX.start sx_refl D D hf
    refine ⟨fun σ H' => ∃ (ls : List Ln) (c' : Nat) (v5 v6 v7 : Option V), σ = [some (.ref d), some (.int 10), some (.int 7), some (tv sg), some (.ref f), v5, v6, v7] ∧ BX d a b H H' f (ls.map tv) ∧ Dr H' d a b c' ∧ c' ≤ c + 300 ∧ ls.length ≤ 10 ∧ Nl 30 ls, ?_, ?_⟩
    · refine ⟨_, rfl, _, rfl, _, _, rfl, rfl, d, a, b, 11, c, rfl, D.new hf, by omega, by omega, by omega, fun H1 r s1 d1 hr1 => ⟨(r : Int), rfl, by omega, by omega, ?_⟩⟩
      have er : ((r : Nat) : Int).toNat = r := by omega
      rw [er]
      refine for_range (n := r) (fun i σ H' => ∃ (ls : List Ln) (c' : Nat) (v5 v6 v7 : Option V), σ = [some (.ref d), some (.int 10), some (.int 7), some (tv sg), some (.ref f), v5, v6, v7] ∧ BX d a b H H' f (ls.map tv) ∧ Dr H' d a b c' ∧ c' ≤ c + 1 + 20 * i ∧ ls.length = i ∧ Nl (8 + 2 * i) ls) ⟨[], _, _, _, _, rfl, B0.call s1, d1, by omega, rfl, Nl.nil⟩ ?_ ?_
      · rintro i σ H2 hi ⟨ls, c2, v5, v6, v7, rfl, B2, d2, lc2, ll, N⟩
        refine ⟨fun σ H' => ∃ (c' way : Nat), σ = [some (.ref d), some (.int 10), some (.int 7), some (tv sg), some (.ref f), some (.int (0 + (i : Int))), some (iv way), v7] ∧ BX d a b H H' f (ls.map tv) ∧ Dr H' d a b c' ∧ c' ≤ c + 2 + 20 * i ∧ (3 ≤ way → ls ≠ []), ?_, ?_⟩
        · refine ⟨_, rfl, Nat.zero_le _, fun z hz => ⟨f, z, _, rfl, rfl, SqL.of (same_new hz _ _ B2.at_), upd_same, _, rfl, ?_⟩⟩
          cases ls with
          | nil => exact iteF ⟨c2, 0, rfl, B2.new hz, d2.new hz, by omega, fun z => by omega⟩
          | cons l ls => exact iteT ⟨_, rfl, d, a, b, 5, c2, rfl, d2.new hz, by omega, by omega, by omega, fun H3 r3 s3 d3 hr3 => ⟨c2 + 1, r3, rfl, (B2.new hz).call s3, d3, by omega, fun _ z => nomatch z⟩⟩
        · rintro σ H3 ⟨c3, way, rfl, B3, d3, lc3, hw⟩
          have sz := lsz (ls := ls) (by omega)
          refine ⟨_, rfl, _, _, rfl, rfl, _, rfl, iteD (fun g => ?_) fun g => ?_⟩
          · refine ⟨_, rfl, .inl ⟨rfl, _, SqL.of B3.at_⟩, _, rfl, _, rfl, _, rfl, d, a, b, c3, 7, sg, rfl, d3, by omega, by omega, hs, hs2, fun H4 c4 l s4 d4 lc4 hl hl2 => ⟨f, _, _, rfl, rfl, (B3.call s4).at_, sz, ?_⟩⟩
            exact ⟨ls ++ [l], c4, _, _, _, rfl, (B3.call s4).pushL, (B3.call s4).dr d4, by omega, by rw [List.length_append, ll]; rfl, (N.up (by omega)).snoc hl (by omega)⟩
          · have ne := hw (by omega)
            refine ⟨_, rfl, _, rfl, d, a, b, c3, _, rfl, d3, by omega, .inr ⟨f, _, rfl, B3.at_, B3.nin, fun z => ne (List.map_eq_nil_iff.mp z), by rw [List.length_map]; omega, fun H4 x s4 d4 hx => ?_⟩⟩
            obtain ⟨l, hl, rfl⟩ := List.mem_map.mp hx
            obtain ⟨n1, n2⟩ := N l hl
            refine ⟨_, rfl, .inl ⟨rfl, _, SqL.of (B3.call s4).at_⟩, _, rfl, rfl, _, rfl, iteD (fun g => ?_) fun g => ?_⟩
            · refine ⟨_, rfl, f, _, _, rfl, rfl, (B3.call s4).at_, sz, ?_⟩
              exact ⟨ls ++ [l], c3 + 1, _, _, _, rfl, (B3.call s4).pushL, (B3.call s4).dr d4, by omega, by rw [List.length_append, ll]; rfl, (N.up (by omega)).snoc n1 (by omega)⟩
            · refine ⟨_, rfl, _, rfl, _, rfl, d, a, b, c3 + 1, l, sg, rfl, d4, by omega, n1, by omega, hs, hs2, fun H5 c5 l5 s5 d5 lc5 hl5 hl6 => ⟨f, _, _, rfl, rfl, (B3.call (sx_trans s4 s5)).at_, sz, ?_⟩⟩
              exact ⟨ls ++ [l5], c5, _, _, _, rfl, (B3.call (sx_trans s4 s5)).pushL, (B3.call (sx_trans s4 s5)).dr d5, by omega, by rw [List.length_append, ll]; rfl, (N.up (by omega)).snoc hl5 (by omega)⟩
      · rintro σ H2 ⟨ls, c2, v5, v6, v7, rfl, B2, d2, lc2, ll, N⟩
        exact ⟨ls, c2, _, _, _, rfl, B2, d2, by omega, by omega, N.up (by omega)⟩
    rintro σ H2 ⟨ls, c2, v5, v6, v7, rfl, B2, d2, lc2, ll, N⟩
    exact ⟨_, rfl, k H2 c2 f ls B2 d2 lc2 ll N⟩
end
end TwK

set_option Elab.async false
set_option linter.all false
set_option maxRecDepth 100000
set_option maxHeartbeats 2000000
set_option pp.deepTerms false
set_option pp.deepTerms.threshold 6
namespace TwK
open PySem PySem.Spec PyProof.Rows L2 SX
section
variable {P : Program} {w : World} {K : PySem.W.Frag} {mg : Str → Option Value} {base : Heap}
theorem sc_bent : FnScope ["_law_draws_here", "_law_lines_here", "_law_long", "_law_signs", "_law_found", "_law_line_here", "_law_way", "_law_k"] ["_law_draws_here", "_law_lines_here", "_law_long", "_law_signs"] (defScope sLawBentLines) := ⟨rfl, rfl, rfl, by decide +kernel, rfl, by decide +kernel, by decide +kernel⟩
def spBent : Sp := fun vs H Q _ => ∃ (d a b p : Addr) (c : Nat) (sg : List Nat) (l0 : List Ln), vs = [.ref d, .ref p, .int 7, tv sg] ∧ Dr H d a b c ∧ H p = some (.lst (l0.map tv)) ∧ p ∉ [d, a] ∧ l0.length ≤ 10 ∧ Nl 30 l0 ∧ c ≤ 3000000 ∧ sg ≠ [] ∧ sg.length ≤ 1000 ∧
  ∀ (H' : Hp) (c' : Nat) (f : Addr) (ls : List Ln), BX d a b H H' f (ls.map tv) → Dr H' d a b c' → c' ≤ c + 600 → ls.length ≤ 25 → Nl 32 ls → Q (.ref f) H'
theorem ok_bent (T : TX K mg) (ct : C8.Cal P w K mg base 2 "_law_take" spTake []) (cl : C8.Cal P w K mg base 5 "_law_line" spLine []) (cn : C8.Cal P w K mg base 4 "_law_near_line" spNear []) : C8.Cal P w K mg base 6 "_law_bent_lines" spBent [] := by
  refine calN T.f_LawBentLines T.g__law_bent_lines sc_bent (fun _ _ _ _ _ _ us hl => match us, hl with | [_, _, _, _], _ => rfl) (fun vs H Q E h => ?_) (fun cdv A outer s H vs Q E hr h => ?_)
  · obtain ⟨d, a, b, p, c, sg, l0, rfl, _⟩ := h
    rfl
  · obtain ⟨d, a, b, p, c, sg, l0, rfl, D, hp, hpn, hl0, N0, hc, hs, hs2, k⟩ := h
    have nd := sc_bent.nd
    refine ⟨_, (pss_cons (ps_set (i := 4) nd rfl (.inl rfl) (pe_lst pa_nil))
  (C8.pss_cut (ps_for PassesOwn.never rfl (pi_list (pv 1)) (pg_name (i := 5) nd rfl (.inl rfl))
  (pss_cons (ps_set (i := 6) nd rfl (.inl rfl) (C8.pe_c ct hr (by decide) rfl (pa_cons (pv 0) (pa_cons pe_int pa_nil))))
  (C8.pss_cut (ps_if (pt_cmpR op_eq (pv 6) pe_int (nomark _)) (pss_one (ps_expr (pe_bm PySem.F.plainAttrs_list PySem.F.slot_list_append PySem.F.type_list_append mt_append (pv 4) (pa_cons (C8.pe_c cl hr (by decide) rfl (pa_cons (pv 0) (pa_cons (pv 2) (pa_cons (pv 3) pa_nil)))) pa_nil)))) pss_nil)
  (C8.pss_cut (ps_if (pt_cmpR op_in_seq (pv 6) (pe_tup (pa_cons pe_int (pa_cons pe_int pa_nil))) (by rfl)) (pss_one (ps_set (i := 5) nd rfl (.inl rfl) (C8.pe_c cn hr (by decide) rfl (pa_cons (pv 0) (pa_cons (pv 5) (pa_cons (pv 3) pa_nil)))))) pss_nil)
  (pss_one (ps_if (pt_cmpR op_eq (pv 6) pe_int (nomark _)) (pss_one (ps_expr (pe_bm PySem.F.plainAttrs_list PySem.F.slot_list_insert PySem.F.type_list_insert mt_insert (pv 4) (pa_cons (C8.pe_c ct hr (by decide) rfl (pa_cons (pv 0) (pa_cons (pe_op op_add (pe_callB call_len (by rfl) T.n_len PySem.boot_len (pa_cons (pv 4) pa_nil)) pe_int) pa_nil))) (pa_cons (pv 5) pa_nil))))) (pss_one (ps_if (pt_cmpR op_ne (pv 6) pe_int (nomark _)) (pss_one (ps_expr (pe_bm PySem.F.plainAttrs_list PySem.F.slot_list_append PySem.F.type_list_append mt_append (pv 4) (pa_cons (pv 5) pa_nil)))) pss_nil))))))))
  (pss_one (ps_ret (pe_op op_cat (pv 4) (pe_lc (own := [("_law_k", 7)]) (g := gName 7) (te := tCall spLine [] C8.E0 (tCons (tVar 0) (tCons (tVar 2) (tCons (tVar 3) tNil)))) (by rfl) nd (pi_range1 (by rfl) T.n_range (pa_cons (pe_op op_fdiv (C8.pe_c ct hr (by decide) rfl (pa_cons (pv 0) (pa_cons pe_int pa_nil))) pe_int) pa_nil)) (blkOk_by (own := [("_law_k", 7)]) (N := ["_law_draws_here", "_law_lines_here", "_law_long", "_law_signs", "_law_found", "_law_line_here", "_law_way", "_law_k"]) (sc := defScope sLawBentLines) (by decide +kernel)) (fun _ _ _ _ _ => (pg_name (i := 7) nd rfl (.inl rfl))) (fun _ _ _ _ _ => pts_nil) (fun _ _ _ _ _ => by exact (C8.pe_c cl hr (by decide) rfl (pa_cons (pv 0) (pa_cons (pv 2) (pa_cons (pv 3) pa_nil))))))))))), ?_⟩
    refine ⟨Nat.zero_le _, fun f hf => ?_⟩
    have B0 : BX d a b H (upd H f (.lst [])) f [] := BX.start sx_refl D D hf
    refine ⟨fun σ H' => ∃ (ls : List Ln) (c' : Nat) (v5 v6 v7 : Option V), σ = [some (.ref d), some (.ref p), some (.int 7), some (tv sg), some (.ref f), v5, v6, v7] ∧ BX d a b H H' f (ls.map tv) ∧ Dr H' d a b c' ∧ c' ≤ c + 300 ∧ ls.length ≤ 20 ∧ Nl 32 ls, ?_, ?_⟩
    · refine ⟨_, rfl, p, rfl, ⟨_, SqL.of (B0.same p _ hpn hp)⟩, for_list (K := K) (a := p) (xs := l0.map tv) (fun i σ H' => ∃ (ls : List Ln) (c' : Nat) (v5 v6 v7 : Option V), σ = [some (.ref d), some (.ref p), some (.int 7), some (tv sg), some (.ref f), v5, v6, v7] ∧ BX d a b H H' f (ls.map tv) ∧ Dr H' d a b c' ∧ c' ≤ c + 30 * i ∧ ls.length ≤ 2 * i ∧ Nl 32 ls)
        ⟨[], c, _, _, _, rfl, B0, D.new hf, by omega, Nat.zero_le _, Nl.nil⟩ (fun i σ H' _ ⟨_, _, _, _, _, _, B, _⟩ => SqL.of (B.same p _ hpn hp)) ?_ ?_⟩
      · rintro i x σ H2 hx ⟨ls, c2, v5, v6, v7, rfl, B2, d2, lc2, ll, N⟩
        have hi : i < l0.length := by
          have := (List.getElem?_eq_some_iff.mp hx).1
          rwa [List.length_map] at this
        rw [List.getElem?_map, List.getElem?_eq_getElem hi] at hx
        have hx := Option.some.inj hx
        obtain ⟨n1, n2⟩ := N0 _ (List.getElem_mem hi)
        subst hx
        refine ⟨_, rfl, d, a, b, 9, c2, rfl, d2, by omega, by omega, by omega, fun H3 way s3 d3 hw => ?_⟩
        refine ⟨fun σ H' => ∃ (ls : List Ln) (c' : Nat), σ = [some (.ref d), some (.ref p), some (.int 7), some (tv sg), some (.ref f), some (tv l0[i]), some (iv way), v7] ∧ BX d a b H H' f (ls.map tv) ∧ Dr H' d a b c' ∧ c' ≤ c + 30 * i + 10 ∧ ls.length ≤ 2 * i + 1 ∧ Nl 32 ls, ?_, ?_⟩
        · refine ⟨_, rfl, rfl, _, rfl, iteD (fun g => ?_) fun g => ?_⟩
          · refine ⟨_, rfl, .inl ⟨rfl, _, SqL.of (B2.call s3).at_⟩, _, rfl, _, rfl, _, rfl, d, a, b, c2 + 1, 7, sg, rfl, d3, by omega, by omega, hs, hs2, fun H4 c4 l s4 d4 lc4 hl hl2 => ⟨f, _, _, rfl, rfl, (B2.call (sx_trans s3 s4)).at_, lsz (by omega), ?_⟩⟩
            exact ⟨ls ++ [l], c4, rfl, (B2.call (sx_trans s3 s4)).pushL, (B2.call (sx_trans s3 s4)).dr d4, by omega, by rw [List.length_append, List.length_singleton]; omega, N.snoc hl (by omega)⟩
          · exact ⟨ls, c2 + 1, rfl, B2.call s3, d3, by omega, by omega, N⟩
        rintro σ H4 ⟨ls, c4, rfl, B4, d4, lc4, ll, N⟩
        refine ⟨fun σ H' => ∃ (ls : List Ln) (c' : Nat) (l : Ln), σ = [some (.ref d), some (.ref p), some (.int 7), some (tv sg), some (.ref f), some (tv l), some (iv way), v7] ∧ BX d a b H H' f (ls.map tv) ∧ Dr H' d a b c' ∧ c' ≤ c + 30 * i + 20 ∧ ls.length ≤ 2 * i + 1 ∧ Nl 32 ls ∧ l ≠ [] ∧ l.length ≤ 32, ?_, ?_⟩
        · refine ⟨_, rfl, sl2, fun z hz => ⟨z, _, rfl, .inr (SqT.of upd_same), rfl, rfl, _, rfl, iteB (fun g => ?_) fun g => ?_⟩⟩
          · refine ⟨_, rfl, _, rfl, _, rfl, d, a, b, c4, l0[i], sg, rfl, d4.new hz, by omega, n1, by omega, hs, hs2, fun H5 c5 l5 s5 d5 lc5 hl5 hl6 => ?_⟩
            exact ⟨ls, c5, l5, rfl, (B4.new hz).call s5, d5, by omega, ll, N, hl5, by omega⟩
          · exact ⟨ls, c4, l0[i], rfl, B4.new hz, d4.new hz, by omega, ll, N, n1, by omega⟩
        rintro σ H5 ⟨ls, c5, l, rfl, B5, d5, lc5, ll, N, l1, l2⟩
        have sz := lsz (ls := ls) (by omega)
        have eL : (ls.map tv).length = ls.length := List.length_map ..
        refine ⟨_, rfl, rfl, _, rfl, iteD (fun g => ?_) fun g => ?_⟩
        · refine ⟨_, rfl, .inl ⟨rfl, _, SqL.of B5.at_⟩, _, rfl, _, rfl, _, ls.length, rfl, .inl ⟨_, SqL.of B5.at_, eL.symm⟩, _, _, rfl, rfl, d, a, b, ls.length + 1, c5, rfl, d5, by omega, by omega, by omega, fun H6 r s6 d6 hr6 => ⟨_, rfl, ?_⟩⟩
          refine ⟨f, _, (r : Int), _, rfl, rfl, (B5.call s6).at_, sz, by omega, by omega, ?_⟩
          have e : (ls.map tv).take ((r : Nat) : Int).toNat ++ [tv l] ++ (ls.map tv).drop ((r : Nat) : Int).toNat = (ls.take r ++ [l] ++ ls.drop r).map tv := by
            rw [List.map_append, List.map_append, List.map_take, List.map_drop]
            rfl
          rw [e]
          refine ⟨ls.take r ++ [l] ++ ls.drop r, c5 + 1, _, _, _, rfl, (B5.call s6).push, (B5.call s6).dr d6, by omega, ?_, fun x hx => ?_⟩
          · rw [List.length_append, List.length_append, List.length_take, List.length_drop, List.length_singleton]
            omega
          · rcases List.mem_append.mp hx with q | q
            · rcases List.mem_append.mp q with q | q
              · exact N x (List.mem_of_mem_take q)
              · rw [List.mem_singleton.mp q]
                exact ⟨l1, l2⟩
            · exact N x (List.mem_of_mem_drop q)
        · refine ⟨_, rfl, rfl, _, rfl, iteNd (fun g => ?_) fun g => ?_⟩
          · refine ⟨_, rfl, .inl ⟨rfl, _, SqL.of B5.at_⟩, _, rfl, f, _, _, rfl, rfl, B5.at_, sz, ?_⟩
            exact ⟨ls ++ [l], c5, _, _, _, rfl, B5.pushL, B5.dr d5, by omega, by rw [List.length_append, List.length_singleton]; omega, N.snoc l1 l2⟩
          · exact ⟨ls, c5, _, _, _, rfl, B5, d5, by omega, by omega, N⟩
      · rintro σ H2 ⟨ls, c2, v5, v6, v7, rfl, B2, d2, lc2, ll, N⟩
        rw [List.length_map] at lc2 ll
        exact ⟨ls, c2, _, _, _, rfl, B2, d2, by omega, by omega, N⟩
    rintro σ H2 ⟨ls, c2, v5, v6, v7, rfl, B2, d2, lc2, ll, N⟩
    refine ⟨_, rfl, _, rfl, d, a, b, 4, c2, rfl, d2, by omega, by omega, by omega, fun H3 r s3 d3 hr3 => ⟨_, _, rfl, rfl, ⟨by decide, by decide⟩, ((r : Int) / 2), rfl, by omega, by omega, fun g hg => ?_⟩⟩
    have er : (((r : Nat) : Int) / 2).toNat = r / 2 := by omega
    rw [er]
    have B3 := B2.call s3
    have G0 : BX d a b H (upd H3 g (.lst [])) g [] := BX.start B3.same D d3 hg
    have gf : g ≠ f := fun e => by rw [e, B3.at_] at hg; cases hg
    refine lc_range (n := r / 2) (fun i H' => ∃ (ms : List Ln) (c' : Nat), BX d a b H H' g (ms.map tv) ∧ H' f = some (.lst (ls.map tv)) ∧ Dr H' d a b c' ∧ c' ≤ c2 + 1 + 10 * i ∧ ms.length = i ∧ Nl 32 ms) ⟨[], c2 + 1, G0, by rw [upd_ne gf.symm]; exact B3.at_, d3.new hg, by omega, rfl, Nl.nil⟩ ?_ ?_
    · rintro i H4 hi ⟨ms, c4, G4, hf4, d4, lc4, lm, M⟩
      refine ⟨rfl, _, rfl, _, rfl, _, rfl, d, a, b, c4, 7, sg, rfl, d4, by omega, by omega, hs, hs2, fun H5 c5 l s5 d5 lc5 hl hl2 => ⟨_, (G4.call s5).at_, lsz (by omega), ?_⟩⟩
      exact ⟨ms ++ [l], c5, (G4.call s5).pushL, by rw [upd_ne gf.symm]; exact s5 f _ B3.nin hf4, (G4.call s5).dr d5, by omega, by rw [List.length_append, lm]; rfl, M.snoc hl (by omega)⟩
    · rintro H4 ⟨ms, c4, G4, hf4, d4, lc4, lm, M⟩
      refine ⟨f, g, _, _, rfl, rfl, hf4, G4.at_, by rw [List.length_map, List.length_map, sizeLine_eq]; omega, fun z hz => ?_⟩
      rw [← List.map_append]
      exact k _ c4 z _ (BX.start G4.same D d4 hz) (d4.new hz) (by omega) (by rw [List.length_append]; omega) (N.app M)
end
end TwK

set_option Elab.async false
set_option linter.all false
set_option maxRecDepth 100000
set_option maxHeartbeats 2000000
set_option pp.deepTerms false
set_option pp.deepTerms.threshold 6
namespace TwK
open PySem PySem.Spec PyProof.Rows L2 SX
section
variable {P : Program} {w : World} {K : PySem.W.Frag} {mg : Str → Option Value} {base : Heap}
theorem sc_two : FnScope ["_law_draws_here", "_law_most", "_law_long", "_law_signs", "_law_one"] ["_law_draws_here", "_law_most", "_law_long", "_law_signs"] (defScope sLawTwoTexts) := ⟨rfl, rfl, rfl, by decide +kernel, rfl, by decide +kernel, by decide +kernel⟩
def spTwo : Sp := fun vs H Q _ => ∃ (d a b : Addr) (c : Nat) (sg : List Nat), vs = [.ref d, .int 10, .int 7, tv sg] ∧ Dr H d a b c ∧ c ≤ 2000000 ∧ sg ≠ [] ∧ sg.length ≤ 1000 ∧
  ∀ (H' : Hp) (c' : Nat) (q f g : Addr) (xs ys : List Ln), SameX [d, a] H H' → BX d a b H H' f (xs.map tv) → BX d a b H H' g (ys.map tv) → H' q = some (.tup [.ref f, .ref g]) → Dr H' d a b c' → c' ≤ c + 1000 → Tx xs → Tx ys → Q (.ref q) H'
theorem tx_of {n : Nat} {ls : List Ln} (h : Nl 32 ls) (g : ls.length ≤ 25) : Tx ls := ⟨by omega, fun l hl => ⟨(h l hl).1, by have := (h l hl).2; omega⟩⟩
theorem ok_two (T : TX K mg) (ct : C8.Cal P w K mg base 2 "_law_take" spTake []) (cl : C8.Cal P w K mg base 6 "_law_lines" spLines []) (cb : C8.Cal P w K mg base 6 "_law_bent_lines" spBent []) : C8.Cal P w K mg base 7 "_law_two_texts" spTwo [] := by
  refine calN T.f_LawTwoTexts T.g__law_two_texts sc_two (fun _ _ _ _ _ _ us hl => match us, hl with | [_, _, _, _], _ => rfl) (fun vs H Q E h => ?_) (fun cdv A outer s H vs Q E hr h => ?_)
  · obtain ⟨d, a, b, c, sg, rfl, _⟩ := h
    rfl
  · obtain ⟨d, a, b, c, sg, rfl, D, hc, hs, hs2, k⟩ := h
    have nd := sc_two.nd
    refine ⟨_, (pss_cons (ps_set (i := 4) nd rfl (.inl rfl) (C8.pe_c cl hr (by decide) rfl (pa_cons (pv 0) (pa_cons (pv 1) (pa_cons (pv 2) (pa_cons (pv 3) pa_nil))))))
  (pss_cons (ps_if (pt_cmpR op_eq (C8.pe_c ct hr (by decide) rfl (pa_cons (pv 0) (pa_cons pe_int pa_nil))) pe_int (nomark _)) (pss_one (ps_ret (pe_tup (pa_cons (pv 4) (pa_cons (C8.pe_c cl hr (by decide) rfl (pa_cons (pv 0) (pa_cons (pv 1) (pa_cons (pv 2) (pa_cons (pv 3) pa_nil))))) pa_nil))))) pss_nil)
  (pss_one (ps_ret (pe_tup (pa_cons (pv 4) (pa_cons (C8.pe_c cb hr (by decide) rfl (pa_cons (pv 0) (pa_cons (pv 4) (pa_cons (pv 2) (pa_cons (pv 3) pa_nil))))) pa_nil))))))), ?_⟩
    refine ⟨_, rfl, _, rfl, _, rfl, _, rfl, d, a, b, c, sg, rfl, D, by omega, hs, hs2, fun H1 c1 f xs B1 d1 lc1 lx N1 => ?_⟩
    refine ⟨_, rfl, d, a, b, 6, c1, rfl, d1, by omega, by omega, by omega, fun H2 r s2 d2 hr2 => ⟨rfl, _, rfl, iteD (fun e => ?_) fun e => ?_⟩⟩
    · refine ⟨_, rfl, _, rfl, _, rfl, _, rfl, _, rfl, d, a, b, c1 + 1, sg, rfl, d2, by omega, hs, hs2, fun H3 c3 g ys B3 d3 lc3 ly N3 => ⟨sl2, fun q hq => ?_⟩⟩
      have s3 := sx_trans (sx_trans B1.same s2) B3.same
      have B := (B1.call s2).call B3.same
      exact k _ c3 q f g xs ys (sx_new s3 hq) (B.new hq) ⟨sx_new s3 hq, sx_free (sx_trans B1.same s2) B3.nin B3.nf, D.kn, same_new hq _ _ B3.at_⟩ upd_same (d3.new hq) (by omega) (tx_of (n := 0) (N1.up (by omega)) (by omega)) (tx_of (n := 0) (N3.up (by omega)) (by omega))
    · refine ⟨_, rfl, _, rfl, _, rfl, _, rfl, _, rfl, d, a, b, f, c1 + 1, sg, xs, rfl, d2, (B1.call s2).at_, B1.nin, lx, N1, by omega, hs, hs2, fun H3 c3 g ys B3 d3 lc3 ly N3 => ⟨sl2, fun q hq => ?_⟩⟩
      have s3 := sx_trans (sx_trans B1.same s2) B3.same
      have B := (B1.call s2).call B3.same
      exact k _ c3 q f g xs ys (sx_new s3 hq) (B.new hq) ⟨sx_new s3 hq, sx_free (sx_trans B1.same s2) B3.nin B3.nf, D.kn, same_new hq _ _ B3.at_⟩ upd_same (d3.new hq) (by omega) (tx_of (n := 0) (N1.up (by omega)) (by omega)) (tx_of (n := 0) N3 ly)
/-! ### _law_draws -/
theorem sc_draws : FnScope ["_law_script", "_law_item"] ["_law_script"] (defScope sLawDraws) := ⟨rfl, rfl, rfl, by decide +kernel, rfl, by decide +kernel, by decide +kernel⟩
def spDraws (K : PySem.W.Frag) : Sp := fun vs H Q _ => ∃ (p : Addr) (ns : List Int), vs = [.ref p] ∧ SqL K H p (ns.map V.int) ∧ ns.length ≤ 1000 ∧
  ∀ (H' : Hp) (d a b : Addr), Same H H' → Dr H' d a b 0 → Q (.ref d) H'
theorem ok_draws (T : TX K mg) : C8.Cal P w K mg base 1 "_law_draws" (spDraws K) [] := by
  refine calN T.f_LawDraws T.g__law_draws sc_draws (fun _ _ _ _ _ _ us hl => match us, hl with | [_], _ => rfl) (fun vs H Q E h => ?_) (fun cdv A outer s H vs Q E hr h => ?_)
  · obtain ⟨p, ns, rfl, _⟩ := h
    rfl
  · obtain ⟨p, ns, rfl, hp, hl, k⟩ := h
    have nd := sc_draws.nd
    refine ⟨_, (pss_one (ps_ret (pe_lst (pa_cons (pe_lc (own := [("_law_item", 1)]) (g := gName 1) (by rfl) nd (pi_list (pv 0)) (blkOk_by (own := [("_law_item", 1)]) (N := ["_law_script", "_law_item"]) (sc := defScope sLawDraws) (by decide +kernel)) (fun _ _ _ _ _ => (pg_name (i := 1) nd rfl (.inl rfl))) (fun _ _ _ _ _ => (pts_one (pt_cmpR op_ge (pv 1) (pe_op op_pow pe_int pe_int) (nomark _)))) (fun _ _ _ _ _ => (pv 1))) (pa_cons pe_int (pa_cons (pe_lc (own := [("_law_item", 1)]) (g := gName 1) (by rfl) nd (pi_list (pv 0)) (blkOk_by (own := [("_law_item", 1)]) (N := ["_law_script", "_law_item"]) (sc := defScope sLawDraws) (by decide +kernel)) (fun _ _ _ _ _ => (pg_name (i := 1) nd rfl (.inl rfl))) (fun _ _ _ _ _ => (pts_one (pt_cmpR op_lt (pv 1) (pe_op op_pow pe_int pe_int) (nomark _)))) (fun _ _ _ _ _ => (pv 1))) (pa_cons pe_int pa_nil))))))), ?_⟩
    have tl : (ns.map V.int).length = ns.length := List.length_map ..
    have cp : CPow 10 18 := ⟨by decide, by decide, by decide⟩
    have item : ∀ {i : Nat} {x : V}, (ns.map V.int)[i]? = some x → i < ns.length ∧ ∃ z : Int, x = .int z := fun {i x} hx => by
      have hi := (List.getElem?_eq_some_iff.mp hx).1
      rw [List.length_map] at hi
      rw [List.getElem?_map, List.getElem?_eq_getElem hi] at hx
      exact ⟨hi, _, (Option.some.inj hx).symm⟩
    refine ⟨_, rfl, p, rfl, ⟨_, hp⟩, fun a ha => ?_⟩
    refine lc_list (K := K) (a := p) (xs := ns.map V.int) (fun i H2 => ∃ ms : List Int, Bld H H2 a (ms.map V.int) ∧ ms.length ≤ i) ⟨[], Bld.start (Same.refl _) ha, Nat.zero_le _⟩ (fun i H2 _ ⟨_, B, _⟩ => B.same.seq hp) ?_ ?_
    · rintro i x H2 hx ⟨ms, B, lm⟩
      obtain ⟨hi, z, rfl⟩ := item hx
      refine ⟨rfl, _, rfl, _, _, rfl, rfl, cp, _, _, rfl, rfl, _, rfl, iteD (fun g => ?_) fun g => ⟨ms, B, by omega⟩⟩
      refine ⟨_, rfl, _, B.at_, by rw [List.length_map, sizeLine_eq]; omega, ms ++ [z], ?_, by rw [List.length_append, List.length_singleton]; omega⟩
      rw [List.map_append]
      exact B.push
    · rintro H2 ⟨as, B2, la⟩
      refine ⟨_, rfl, p, rfl, ⟨_, B2.same.seq hp⟩, fun b hb => ?_⟩
      refine lc_list (K := K) (a := p) (xs := ns.map V.int) (fun i H3 => ∃ ms : List Int, Bld H2 H3 b (ms.map V.int) ∧ ms.length ≤ i) ⟨[], Bld.start (Same.refl _) hb, Nat.zero_le _⟩ (fun i H3 _ ⟨_, B, _⟩ => (B2.same.trans B.same).seq hp) ?_ ?_
      · rintro i x H3 hx ⟨ms, B, lm⟩
        obtain ⟨hi, z, rfl⟩ := item hx
        refine ⟨rfl, _, rfl, _, _, rfl, rfl, cp, _, _, rfl, rfl, _, rfl, iteD (fun g => ?_) fun g => ⟨ms, B, by omega⟩⟩
        refine ⟨_, rfl, _, B.at_, by rw [List.length_map, sizeLine_eq]; omega, ms ++ [z], ?_, by rw [List.length_append, List.length_singleton]; omega⟩
        rw [List.map_append]
        exact B.push
      · rintro H3 ⟨bs, B3, lb⟩
        have ab : a ≠ b := fun e => by rw [← e, B2.at_] at hb; cases hb
        refine ⟨sl4, fun d hd => k _ d a b ((B2.same.trans B3.same).trans (same_new hd)) ⟨0, as, bs, upd_same, same_new hd _ _ (B3.same _ _ B2.at_), same_new hd _ _ B3.at_, ab⟩⟩
end
end TwK

set_option Elab.async false
set_option linter.all false
set_option maxRecDepth 100000
set_option maxHeartbeats 2000000
set_option pp.deepTerms false
set_option pp.deepTerms.threshold 6
namespace TwK
open PySem PySem.Spec PyProof.Rows L2 SX
theorem pet_cmpR {X : Cx} {a b : Expr} {pos : Pos} {ta tb : TE} {op : CmpOp} {r : R2} (ho : OpR X (compareOp op) r) (ha : PET X a ta) (hb : PE X b tb) (hm : behindInMarks op b = false) : PET X (.Compare a [op] [b] pos) (tOp r ta tb) := by
  intro pins s σ H Q h0 I h
  exact wpAny_Compare1 (thn (ha pins s σ H _ h0 I h) fun v s1 ⟨x, H1, I1, r1, q1⟩ => thn (hb.run pins s1 σ H1 _ I1 q1) fun u s2 ⟨y, H2, I2, r2, q2⟩ => ho pins s2 σ H2 x y v u Q I2 r1 r2 q2) hm
section
variable {P : Program} {w : World} {K : PySem.W.Frag} {mg : Str → Option Value} {base : Heap}
theorem sc_blank : FnScope ["_law_line_here"] ["_law_line_here"] (defScope sLawBlank) := ⟨rfl, rfl, rfl, by decide +kernel, rfl, by decide +kernel, by decide +kernel⟩
def spBlank : Sp := fun vs H Q _ => ∃ l : Ln, vs = [tv l] ∧ l.length ≤ 1000 ∧ ∀ (H' : Hp) (b : Bool), Same H H' → Q (.bl b) H'
theorem rep_len (x y : Str) : (Txt.replace x y (S [])).length ≤ x.length := TK.replace_len x y (S [])
theorem ok_blank (T : TX K mg) : C8.Cal P w K mg base 1 "_law_blank" spBlank [] := by
  obtain ⟨fd, F⟩ := T.f_LawBlank
  have B : Binds K fd ["_law_line_here"] [] := F.bindsN (fun _ _ _ _ _ _ us hl => match us, hl with | [_], _ => rfl)
  obtain ⟨oc, od, dV, kV, doc, pm, an, cdv, ct, osl, e, lk, hcd, _, _⟩ := id F.ex
  subst e
  refine ⟨_, _, ["_law_line_here"], [], fn_ofT (k := 0) lk hcd sc_blank (by decide +kernel) (by decide) (fun vs H Q E h => ?_) (fun A outer s H vs Q E hr h => ?_), T.g__law_blank, F.kp, B, .nil⟩
  · obtain ⟨l, rfl, _⟩ := h
    rfl
  · obtain ⟨l, rfl, hl, k⟩ := h
    have nd := sc_blank.nd
    refine ⟨_, CwR.psst_one (CwR.pst_ret (pet_cmpR op_in_seq (CwR.pet_replT (CwR.pet_replC (pv 0))) (pe_tup (pa_cons pe_str (pa_cons pe_str (pa_cons pe_str (pa_cons pe_str pa_nil))))) (by rfl))), ?_⟩
    have l2 : (Txt.replace (S l) (Str.ofString " ") (S [])).length ≤ 1000 := Nat.le_trans (rep_len _ _) (by rw [S_len]; exact hl)
    refine ⟨_, rfl, S l, rfl, by rw [S_len]; show l.length + (l.length + 1) * 0 ≤ _; omega, _, rfl, ?_, sl4, fun z hz => ⟨z, _, rfl, .inr (SqT.of upd_same), rfl, rfl, k _ _ (same_new hz)⟩⟩
    exact (by omega : ∀ n : Nat, n ≤ 1000 → n + (n + 1) * 0 ≤ 16777216) _ l2
end
end TwK

set_option Elab.async false
set_option linter.all false
set_option maxRecDepth 100000
set_option maxHeartbeats 2000000
set_option pp.deepTerms false
set_option pp.deepTerms.threshold 6
namespace TwK
open PySem PySem.Spec PyProof.Rows L2 SX LamX NdefX
/-! ### a junk function is made -/
def tLamN (T : List (Addr × Str)) (q : Str) (p : Str) (pp p1 p2 p3 : Pos) (cell : Addr) : TE := fun σ H Q => Tabs T H ∧ ∀ (f c' : Addr) (H1 : Hp), ExtN H H1 → Tabs T H1 → H1 c' = some (CodeO c' q) → H1 f = none → Q (.ref f) (upd H1 f (LamO f ⟨p, pp, p1, p2, p3, q, cell, c'⟩))
theorem pe_lamN {X : Cx} {T : List (Addr × Str)} {c P cell : Addr} {p : Str} {pp p1 p2 p3 pos : Pos} (TB : TabB X.base X.mg c P) (hcode : X.env.code = .ref c) (hm : (P, X.env.qual ++ "<lambda>") ∈ T) (hu : ∀ t ∈ T, t.1 = P → t.2 = X.env.qual ++ "<lambda>")
    (hcell : X.env.cells.lookup ("_law_bad" : Str) = some cell) : PE X (.Lambda (lamArgs p pp) (lamBody p p1 p2 p3) (lamScope p) pos) (tLamN T (X.env.qual ++ "<lambda>") p pp p1 p2 p3 cell) := by
  refine ⟨fun pins s σ H Q I h => ?_⟩
  obtain ⟨hT, h⟩ := h
  obtain ⟨ps, hP, ht, ha⟩ := hT _ hm
  have hfree : ∀ y ∈ (lamScope p).names, y.2 = .free → ∃ c, X.env.cells.lookup y.1 = some c := fun y hy e => by
    rcases List.mem_cons.mp hy with e1 | hy
    · rw [e1] at e; cases e
    · rw [List.mem_singleton.mp hy]; exact ⟨_, hcell⟩
  have eclo : cloFrom X.env.cells (lamScope p).names [] = [(("_law_bad" : Str), cell)] := by
    show cloFrom X.env.cells [(p, .local), (("_law_bad" : Str), .free)] [] = _
    simp [cloFrom, hcell]
  have hP' : s.heap.get? P = some { cls := .none, data := .fields ps } := I.hok P _ hP
  have bP : s.heap.BuiltinsAt X.mg P := TB.bm.keeps I.bk
  refine PySem.W.kla_eval rfl ?_
  cases hc : codeAmong pos ps.toList with
  | none =>
    refine PySem.W.kla_makeFunction (mg := X.mg) (c := c) (P := P) (ps := ps) (closure_ok hfree) I.ok.glob (I.mod.glob.keeps I.bk) hcode (TB.code.keeps I.bk) hP' ht hc TB.gP bP fun c' ctv h' tk hx hge hlt hrec htb => ?_
    obtain ⟨c2, oc, vs, t, e2, hoc, hd, hv⟩ := hrec
    cases e2
    have nC : H c' = none := I.hok.fresh hge
    have I1 := inv_table (t' := tk) (q := X.env.qual ++ "<lambda>") (more := #[rawInt pos.line, rawInt pos.col, .ref c']) (h' := h') I hP hx htb hge ⟨oc, vs, t, hoc, hd, hv⟩
    have I2 := I1.laid (a := h'.objs.size) (t' := tk) (o := LamO h'.objs.size ⟨p, pp, p1, p2, p3, X.env.qual ++ "<lambda>", cell, c'⟩) (h' := h'.push (PySem.W.kla_obj "<lambda>" (X.env.qual ++ "<lambda>") (lamArgs p pp) (lamBody p p1 p2 p3) (lamScope p) [("_law_bad", cell)] ((X.mg "__name__").getD .none) c' ctv)) (fun b o e => Heap.get?_push_of_some _ e) (Nat.le_refl _) (lamO_ok (Heap.get?_push_size _ rfl))
    have hE : ExtN H (upd (upd H P (.tbl (ps ++ #[rawInt pos.line, rawInt pos.col, .ref c']))) c' (CodeO c' (X.env.qual ++ "<lambda>"))) := fun b o e n => by
      rw [upd_ne (ne_of_none e nC), upd_ne (fun z => n ps (Option.some.inj (e.symm.trans (by rw [z]; exact hP))))]
      exact e
    have eL : (ps ++ #[rawInt pos.line, rawInt pos.col, .ref c']).toList = ps.toList ++ [rawInt pos.line, rawInt pos.col, .ref c'] := by simp
    rw [eclo]
    refine ⟨.ref h'.objs.size, _, I2, rfl, h _ c' _ hE (fun t ht' => ?_) upd_same (I1.hok.fresh (Nat.le_refl _))⟩
    by_cases hb : t.1 = P
    · rw [hu t ht' hb, hb]
      refine ⟨_, by rw [upd_ne (ne_of_none hP nC), upd_same], by rw [eL]; exact PySem.TriplesOk_snoc _ _ _ _ ht, fun p' cv hcv => ?_⟩
      rw [eL] at hcv
      rcases among_app _ ht hcv with z | z
      · obtain ⟨c0, e1, e2⟩ := ha p' cv z
        exact ⟨c0, e1, hE _ _ e2 codeO_ne⟩
      · exact ⟨c', z, upd_same⟩
    · obtain ⟨ps', a1, a2, a3⟩ := hT t ht'
      refine ⟨ps', by rw [upd_ne (ne_of_none a1 nC), upd_ne hb]; exact a1, a2, fun p' cv hcv => ?_⟩
      obtain ⟨c0, e1, e2⟩ := a3 p' cv hcv
      exact ⟨c0, e1, hE _ _ e2 codeO_ne⟩
  | some cv =>
    obtain ⟨c', e, hco⟩ := ha pos cv hc
    subst e
    refine PySem.W.kla_makeFunctionHit (mg := X.mg) (c := c) (P := P) (ps := ps) (closure_ok hfree) I.ok.glob (I.mod.glob.keeps I.bk) hcode (TB.code.keeps I.bk) hP' ht hc bP fun ctv h' tk hx hsz => ?_
    have I1 : Inv X pins σ H { s with heap := h', toks := tk } := I.kept hx
    have I2 := I1.laid (a := h'.objs.size) (t' := tk) (o := LamO h'.objs.size ⟨p, pp, p1, p2, p3, X.env.qual ++ "<lambda>", cell, c'⟩) (h' := h'.push (PySem.W.kla_obj "<lambda>" (X.env.qual ++ "<lambda>") (lamArgs p pp) (lamBody p p1 p2 p3) (lamScope p) [("_law_bad", cell)] ((X.mg "__name__").getD .none) c' ctv)) (fun b o e => Heap.get?_push_of_some _ e) (Nat.le_refl _) (lamO_ok (Heap.get?_push_size _ rfl))
    rw [eclo]
    exact ⟨.ref h'.objs.size, _, I2, rfl, h _ c' H (ExtN.refl H) hT hco (I1.hok.fresh (Nat.le_refl _))⟩
end TwK

set_option Elab.async false
set_option linter.all false
set_option maxRecDepth 100000
set_option maxHeartbeats 2000000
set_option pp.deepTerms false
set_option pp.deepTerms.threshold 6
namespace TwK
open PySem PySem.Spec PyProof.Rows L2 SX LamX NdefX
def RawEnd (outer : List Env) (P : Program) (w : World) (H : Hp) (s : Shared) (Q : VK) : Flow → Shared → Prop := fun fl s' => match fl with
  | .ret u => L2.CE outer P w H s Q u s'
  | .next => L2.CE outer P w H s Q .none s'
  | _ => False
theorem fn_raw {P : Program} {w : World} {K : PySem.W.Frag} {mg : Str → Option Value} {base : Heap} {k : Nat} {f : Addr} {name qual : Str} {params : Arguments} {body : List Stmt} {scope : Scope} {dvs : List V} {kws : List (Str × V)} {fd : FuncData} {N ps : List Str} {sp : Sp} (F : FunD K name qual params body scope dvs kws f fd) (S : FnScope N ps scope) (len : ∀ vs H Q E, sp vs H Q E → vs.length = ps.length)
    (hb : ∀ (cdv : Value) (c : Addr) (A : Around) (outer : List Env) (s : Shared) (H : Hp) (vs : List V) (Q : VK) (E : XK) (s1 : Shared), fd.code = .ref c → cdv = .ref c → Room k (A.deeper (envOfC qual scope s.heap.objs.size f cdv)) → sp vs H Q E → Inv (cxOf C8.CX0 P w K mg base N qual scope f cdv A outer s H E) [] (start N vs) H s1 →
      wpAny (model P w) (cxOf C8.CX0 P w K mg base N qual scope f cdv A outer s H E).A (execs body (cxOf C8.CX0 P w K mg base N qual scope f cdv A outer s H E).env) (RawEnd outer P w H s Q) (cxOf C8.CX0 P w K mg base N qual scope f cdv A outer s H E).xe s1) :
    FnOk P w K mg base C8.CX0 (k + 1) f fd ps sp := by
  obtain ⟨oc, od, dV, kV, doc, pm, an, cdv, ct, osl, e, lk, hcd, _, _⟩ := id F.ex
  subst e
  obtain ⟨c, ec⟩ := He.codeIn_ref hcd
  refine ⟨len, fun A outer s H args us vs Q E hr e0 hbi r hsp => ?_⟩
  have hl := len _ _ _ _ hsp
  have KX : K.In s.heap := e0.mod.kin.keeps fun b o e => (e0.bs b o e).1
  have lim : s.heap.NoLimit := e0.mod.nolimit.keeps fun b o e => (e0.bs b o e).1
  refine codeAny_call_function hr.depth (KX _ _ lk) rfl S.co S.gen rfl (PySem.W.codeRec_of KX hcd) (hbi _ _ _ _ ?_)
  refine wpAny_newFunctionEnv_cells S.kind (fun ⟨n, v⟩ hy => (S.par n (List.of_mem_zip hy).1).elim .inl fun q => .inr ⟨q, PySem.W.cellsFrom_some _ _ _ (.inl q)⟩) fun env he s1 x => ?_
  subst he
  refine ⟨lim.keeps x.toInCall.keep, codeAny_func ?_⟩
  refine wpAny_mono (hb cdv c A outer s H vs Q E s1 ec ec (hr.deeper _) hsp (inv_start S hr.hd e0 hl r x)) (fun fl s' hs => ?_) fun e s' hs => hs
  cases fl with
  | ret u => exact hs
  | next => exact hs
  | brk => exact (show False from hs).elim
  | cont => exact (show False from hs).elim
/-- what a plain return gives -/
theorem raw_ret {P : Program} {w : World} {K : PySem.W.Frag} {mg : Str → Option Value} {base : Heap} {N : List Str} {qual : Str} {scope : Scope} {f : Addr} {cdv : Value} {A : Around} {outer : List Env} {s s' : Shared} {H H' : Hp} {E : XK} {Q : VK} {σ : L2.St} {v : V} {u : Value}
    (J : Inv (cxOf C8.CX0 P w K mg base N qual scope f cdv A outer s H E) [] σ H' s') (r : L2.RelV v u) (q : Q v H') : RawEnd outer P w H s Q (.ret u) s' := ⟨v, H', J.os, J.bare, J.base, J.hok, r, q⟩
/-- the cell of _law_bad is known from now on -/
theorem raw_cell {P : Program} {w : World} {K : PySem.W.Frag} {mg : Str → Option Value} {base : Heap} {N : List Str} {qual : Str} {scope : Scope} {f : Addr} {cdv : Value} {A : Around} {outer : List Env} {s s' : Shared} {H H' : Hp} {E : XK} {Q : VK} {σ : L2.St} {v : V} {u : Value} {i : Nat} {b : V} {cell : Addr}
    (J : Inv (cxOf C8.CX0 P w K mg base N qual scope f cdv A outer s H E) [] σ H' s') (r : L2.RelV v u) (hi : N[i]? = some ("_law_bad" : Str)) (hσ : σ[i]? = some (some b)) (hk : scope.names.lookup ("_law_bad" : Str) = some .cell)
    (hc : (cxOf C8.CX0 P w K mg base N qual scope f cdv A outer s H E).env.cells.lookup ("_law_bad" : Str) = some cell) (hge : s.heap.objs.size ≤ cell)
    (q : H' cell = none → Q v (upd H' cell (CellO cell b))) : RawEnd outer P w H s Q (.ret u) s' := by
  have nC : H' cell = none := J.freeC _ _ hc
  have ne : ∀ {d : Addr} {o : HO}, H' d = some o → d ≠ cell := fun e => ne_of_none e nC
  obtain ⟨m, hn, hl⟩ := J.loc
  obtain ⟨u2, r2, lk⟩ := hl i _ b hi hσ (.inr (.inl hk))
  have cl : s'.heap.IsCell cell (some u2) := by
    rcases lk with ⟨k', _⟩ | ⟨_, c3, e', z⟩
    · have k' : scope.names.lookup ("_law_bad" : Str) = some .local := k'
      rw [hk] at k'
      cases k'
    · rw [hc] at e'
      cases e'
      exact z
  have un : Un (frs outer) [] H H' s.heap s'.heap := J.base
  refine ⟨v, upd H' cell (CellO cell b), J.os, J.bare, ?_, fun d o hd => ?_, r, q nC⟩
  · refine ⟨un.keep, un.slot, fun d o e n hx => ?_, un.there, fun d xs e => ?_, fun d o u e => ?_, fun d ps e => ?_⟩
    · rw [upd_ne (fun z => by rw [z] at e; exact Nat.not_lt.mpr hge (Heap.lt_size e))]
      exact un.free d o e n hx
    · have z := un.tups d xs e
      rw [upd_ne (ne z)]
      exact z
    · have z := un.frzs d o u e
      rw [upd_ne (ne z)]
      exact z
    · obtain ⟨more, z⟩ := un.tbls d ps e
      exact ⟨more, by rw [upd_ne (ne z)]; exact z⟩
  · by_cases h : d = cell
    · subst h
      rw [upd_same] at hd
      cases hd
      exact cellO_ok r2 cl
    · rw [upd_ne h] at hd
      exact (J.hok d o hd).stay (fun _ _ _ z => z) (fun d z => by rw [upd_ne (ne z)]; exact z) fun d xs z => by rw [upd_ne (ne z)]; exact z
end TwK

set_option Elab.async false
set_option linter.all false
set_option maxRecDepth 100000
set_option maxHeartbeats 2000000
set_option pp.deepTerms false
set_option pp.deepTerms.threshold 6
namespace TwK
open PySem PySem.Spec PyProof.Rows L2 SX LamX NdefX
theorem raw_cons {X : Cx} {st : Stmt} {rest : List Stmt} {t : TS} {s : Shared} {σ : L2.St} {H : Hp} {R : Flow → Shared → Prop} {Nx : L2.St → Hp → Prop} {Rt : VK} (h : PS X st t) (I : Inv X [] σ H s) (q : t { nx := Nx, rt := Rt } σ H)
    (next : ∀ σ' H' s', Inv X [] σ' H' s' → Nx σ' H' → wpAny (model X.prog X.w) X.A (execs rest X.env) R X.xe s') (ret : ∀ σ' H' s' v u, Inv X [] σ' H' s' → L2.RelV v u → Rt v H' → R (.ret u) s') : wpAny (model X.prog X.w) X.A (execs (st :: rest) X.env) R X.xe s := by
  refine wpAny_execs_cons (thn (h.run [] s σ H _ I q) fun fl s' hs => ?_)
  cases fl with
  | next => obtain ⟨σ', H', I', q'⟩ := hs; exact next σ' H' s' I' q'
  | ret u => obtain ⟨v, σ', H', I', r, q'⟩ := hs; exact ret σ' H' s' v u I' r q'
  | brk => obtain ⟨_, _, _, q'⟩ := hs; exact False.elim q'
  | cont => obtain ⟨_, _, _, q'⟩ := hs; exact False.elim q'
theorem raw_if {X : Cx} {c : Expr} {a b : List Stmt} {pos : Pos} {rest : List Stmt} {t : TT} {s : Shared} {σ : L2.St} {H : Hp} {R : Flow → Shared → Prop} {Nt Nf : Hp → Prop} (h : PT X c t) (I : Inv X [] σ H s) (q : t σ H fun d H' => if d = true then Nt H' else Nf H')
    (yes : ∀ H' s', Inv X [] σ H' s' → Nt H' → wpAny (model X.prog X.w) X.A (execs a X.env) (fun fl s2 => match fl with | .next => wpAny (model X.prog X.w) X.A (execs rest X.env) R X.xe s2 | f => R f s2) X.xe s')
    (no : ∀ H' s', Inv X [] σ H' s' → Nf H' → wpAny (model X.prog X.w) X.A (execs b X.env) (fun fl s2 => match fl with | .next => wpAny (model X.prog X.w) X.A (execs rest X.env) R X.xe s2 | f => R f s2) X.xe s') :
    wpAny (model X.prog X.w) X.A (execs (.If c a b pos :: rest) X.env) R X.xe s := by
  refine wpAny_execs_cons (wpAny_If (thn (h.run [] s σ H _ I q) fun d s' hs => ?_))
  obtain ⟨H', I', q'⟩ := hs
  cases d with
  | true => exact yes H' s' I' q'
  | false => exact no H' s' I' q'
theorem raw_return {X : Cx} {e : Expr} {pos : Pos} {rest : List Stmt} {te : TE} {s : Shared} {σ : L2.St} {H : Hp} {R : Flow → Shared → Prop} {Rt : VK} (h : PE X e te) (I : Inv X [] σ H s) (q : te σ H Rt) (ret : ∀ H' s' v u, Inv X [] σ H' s' → L2.RelV v u → Rt v H' → R (.ret u) s') :
    wpAny (model X.prog X.w) X.A (execs (.Return (some e) pos :: rest) X.env) R X.xe s :=
  wpAny_execs_cons (wpAny_Return_some (thn (h.run [] s σ H _ I q) fun u s' ⟨v, H', I', r, q'⟩ => ret H' s' v u I' r q'))
/-! ### what is kept when junk is drawn -/
def ExtX (L : List Addr) (H H' : Hp) : Prop := ∀ b o, b ∉ L → H b = some o → (∀ ps, o ≠ .tbl ps) → H' b = some o
theorem ExtX.of {L : List Addr} {H H' : Hp} (s : SameX L H H') : ExtX L H H' := fun b o n e _ => s b o n e
theorem ExtX.trans {L : List Addr} {H H1 H2 : Hp} (a : ExtX L H H1) (b : ExtX L H1 H2) : ExtX L H H2 := fun c o n e k => b c o n (a c o n e k) k
theorem ExtX.ofN {L : List Addr} {H H' : Hp} (a : ExtN H H') : ExtX L H H' := fun b o _ e k => a b o e k
theorem Dr.extN {H H' : Hp} {d a b : Addr} {c : Nat} (h : Dr H d a b c) (s : ExtN H H') : Dr H' d a b c := by
  obtain ⟨x, as, bs, h1, h2, h3, h4⟩ := h
  exact ⟨x, as, bs, s _ _ h1 (fun _ z => nomatch z), s _ _ h2 (fun _ z => nomatch z), s _ _ h3 (fun _ z => nomatch z), h4⟩
/-- tables stay while draws are taken -/
theorem tabs_sx {T : List (Addr × Str)} {H H' : Hp} {d a b : Addr} {c : Nat} (t : Tabs T H) (D : Dr H d a b c) (s : SameX [d, a] H H') : Tabs T H' := by
  obtain ⟨x, as, bs, h1, h2, h3, h4⟩ := D
  have out : ∀ {z : Addr} {o : HO}, H z = some o → (∀ xs, o ≠ .lst xs) → z ∉ [d, a] := fun {z o} e n m => by
    rcases List.mem_cons.mp m with q | q
    · rw [q, h1] at e; exact n _ (Option.some.inj e).symm
    · rw [List.mem_singleton.mp q, h2] at e; exact n _ (Option.some.inj e).symm
  intro p hp
  obtain ⟨ps, e1, e2, e3⟩ := t p hp
  refine ⟨ps, s _ _ (out e1 (fun _ z => nomatch z)) e1, e2, fun pos cv hc => ?_⟩
  obtain ⟨c', q1, q2⟩ := e3 pos cv hc
  exact ⟨c', q1, s _ _ (out q2 (fun _ z => by unfold CodeO at z; cases z)) q2⟩
theorem cutV_map (xs : List Ln) (lo hi : Option Int) : ∃ ls : List Ln, cutV (xs.map tv) lo hi = ls.map tv := ⟨_, by unfold cutV; rw [← List.map_drop, ← List.map_take]⟩
section
variable {P : Program} {w : World} {K : PySem.W.Frag} {mg : Str → Option Value} {base : Heap}
/-- the tables of the two defs that make junk functions -/
def tabs (K : PySem.W.Frag) : List (Addr × Str) := [((He.cT K ("_law_junk_lines", none)).2, "_law_junk_lines.<locals>.<lambda>"), ((He.cT K ("_law_junk_signs", none)).2, "_law_junk_signs.<locals>.<lambda>")]
structure TabOk (K : PySem.W.Frag) (mg : Str → Option Value) (base : Heap) : Prop where
  b1 : TabB base mg (He.cT K ("_law_junk_lines", none)).1 (He.cT K ("_law_junk_lines", none)).2
  b2 : TabB base mg (He.cT K ("_law_junk_signs", none)).1 (He.cT K ("_law_junk_signs", none)).2
  ne : (He.cT K ("_law_junk_lines", none)).2 ≠ (He.cT K ("_law_junk_signs", none)).2
theorem sc_jsigns : FnScope ["_law_draws_here", "_law_way", "_law_bad"] ["_law_draws_here"] (defScope sLawJunkSigns) := ⟨rfl, rfl, rfl, by decide +kernel, rfl, by decide +kernel, by decide +kernel⟩
/-- a junk argument whose list is none of the source's -/
def JArgX (H : Hp) (d a : Addr) (v : V) : Prop := v = .str "blanks" ∨ v = .non ∨ ∃ f dd bad ls, v = .ref f ∧ LamAt H f dd bad ls ∧ bad ∉ [d, a]
theorem JArgX.arg {H : Hp} {d a : Addr} {v : V} (h : JArgX H d a v) : JArg H v := by
  rcases h with e | e | ⟨f, dd, bad, ls, e, L, _⟩
  · exact .inl e
  · exact .inr (.inl e)
  · exact .inr (.inr ⟨f, dd, bad, ls, e, L⟩)
theorem JArgX.ext {H H' : Hp} {d a b : Addr} {c : Nat} {v : V} (h : JArgX H d a v) (D : Dr H d a b c) (s : ExtX [d, a] H H') : JArgX H' d a v := by
  obtain ⟨x, as, bs, h1, h2, h3, h4⟩ := D
  have out : ∀ {z : Addr} {o : HO}, H z = some o → (∀ xs, o ≠ .lst xs) → z ∉ [d, a] := fun {z o} e n m => by
    rcases List.mem_cons.mp m with q | q
    · rw [q, h1] at e; exact n _ (Option.some.inj e).symm
    · rw [List.mem_singleton.mp q, h2] at e; exact n _ (Option.some.inj e).symm
  rcases h with e | e | ⟨f, dd, bad, ls, e, L, nb⟩
  · exact .inl e
  · exact .inr (.inl e)
  · refine .inr (.inr ⟨f, dd, bad, ls, e, ⟨L.par, s _ _ (out L.fn (fun _ z => by unfold LamO at z; cases z)) L.fn (fun _ z => by unfold LamO at z; cases z), s _ _ (out L.cd (fun _ z => by unfold CodeO at z; cases z)) L.cd (fun _ z => by unfold CodeO at z; cases z), s _ _ (out L.cl (fun _ z => by unfold CellO at z; cases z)) L.cl (fun _ z => by unfold CellO at z; cases z), s _ _ nb L.bd (fun _ z => nomatch z)⟩, nb⟩)
def JOut (K : PySem.W.Frag) (d a b : Addr) (c : Nat) (H : Hp) (Q : VK) : Prop := ∀ (H' : Hp) (c' : Nat) (q bad : Addr) (jv : V), ExtX [d, a] H H' → Tabs (tabs K) H' → Dr H' d a b c' → c' ≤ c + 100 → H' q = some (.tup [jv, .ref bad]) → JArgX H' d a jv → Q (.ref q) H'
def spJSigns (K : PySem.W.Frag) : Sp := fun vs H Q _ => ∃ (d a b : Addr) (c : Nat), vs = [.ref d] ∧ Dr H d a b c ∧ c ≤ 1000000 ∧ Tabs (tabs K) H ∧ JOut K d a b c H Q
theorem ok_jsigns (T : TX K mg) (TO : TabOk K mg base) (ct : C8.Cal P w K mg base 2 "_law_take" spTake []) : C8.Cal P w K mg base 3 "_law_junk_signs" (spJSigns K) [] := by
  obtain ⟨fd, F⟩ := T.f_LawJunkSigns
  refine ⟨_, fd, ["_law_draws_here"], [], fn_raw F sc_jsigns (fun vs H Q E h => ?_) (fun cdv cc A outer s H vs Q E s1 hc1 hc2 hr h I => ?_), T.g__law_junk_signs, F.kp, F.bindsN (fun _ _ _ _ _ _ us hl => match us, hl with | [_], _ => rfl), .nil⟩
  · obtain ⟨d, a, b, c, rfl, _⟩ := h
    rfl
  · obtain ⟨d, a, b, c, rfl, D, hc, hT, k⟩ := h
    have nd := sc_jsigns.nd
    refine raw_cons (Nx := fun σ H' => ∃ way : Nat, σ = [some (.ref d), some (iv way), none] ∧ SameX [d, a] H H' ∧ Dr H' d a b (c + 1)) (Rt := fun _ _ => False) (ps_set (i := 1) nd rfl (.inl rfl) (C8.pe_c ct hr (by decide) rfl (pa_cons (pv 0) (pa_cons pe_int pa_nil)))) I ⟨_, rfl, d, a, b, 4, c, rfl, D, by omega, by omega, by omega, fun H1 r s1 d1 hr1 => ⟨r, rfl, s1, d1⟩⟩ ?_ fun _ _ _ _ _ _ _ z => z.elim
    rintro σ H1 s1 I1 ⟨way, rfl, s1', d1⟩
    have T1 := tabs_sx hT D s1'
    have k1 : ∀ {H2 : Hp} {q bad : Addr} {jv : V}, Same H1 H2 → H2 q = some (.tup [jv, .ref bad]) → JArgX H2 d a jv → Q (.ref q) H2 := fun {H2 q bad jv} s2 hq hj =>
      k H2 (c + 1) q bad jv (ExtX.of (sx_trans s1' (sx_of s2))) (T1.ext s2) (d1.mono s2) (by omega) hq hj
    refine raw_cons (Nx := fun σ H' => σ = [some (.ref d), some (iv way), none] ∧ H1 = H') (Rt := Q) (ps_if (pt_cmpR op_eq (pv 1) pe_int (nomark _)) (pss_one (ps_ret (pe_tup (pa_cons pe_str (pa_cons (pe_lst (pa_cons pe_str (pa_cons pe_str pa_nil))) pa_nil))))) pss_nil) I1 ⟨_, rfl, rfl, _, rfl, iteD (fun e => ?_) fun e => ⟨rfl, rfl⟩⟩ ?_ fun _ _ _ _ _ J r q => raw_ret J r q
    · exact ⟨sl2, fun z hz => ⟨sl2, fun y hy => k1 ((same_new hz).trans (same_new hy)) upd_same (.inl rfl)⟩⟩
    rintro σ H2 s2 I2 ⟨rfl, rfl⟩
    refine raw_if (Nt := fun H' => H1 = H') (Nf := fun H' => H1 = H') (pt_cmpR op_eq (pv 1) pe_int (nomark _)) I2 ⟨_, rfl, rfl, _, rfl, iteD (fun e => rfl) fun e => rfl⟩ ?_ ?_
    · rintro H2 s3 I3 rfl
      refine raw_cons (Nx := fun σ H' => ∃ (bad : Addr) (ls : List Ln), σ = [some (.ref d), some (iv way), some (.ref bad)] ∧ SameX [d, a] H H' ∧ Dr H' d a b (c + 2) ∧ H' bad = some (.lst (ls.map tv)) ∧ bad ∉ [d, a]) (Rt := fun _ _ => False) (ps_set (i := 2) nd rfl (.inr rfl) (pe_slice sl_list (pe_lst (pa_cons pe_str (pa_cons pe_str pa_nil))) po_none (po_some (pe_op op_add pe_int (C8.pe_c ct hr (by decide) rfl (pa_cons (pv 0) (pa_cons pe_int pa_nil))))))) I3 ?_ ?_ fun _ _ _ _ _ _ _ z => z.elim
      · refine ⟨sl2, fun z hz => ⟨_, rfl, d, a, b, 2, c + 1, rfl, d1.new hz, by omega, by omega, by omega, fun H4 r s4 d4 hr4 => ⟨_, _, rfl, rfl, _, rfl, z, _, rfl, SqL.of (s4 z _ (fun m => d1.in_ z m hz) upd_same), fun p hp => ?_⟩⟩⟩
        obtain ⟨ls, els⟩ := cutV_map [[97], [10]] none (some ((1 : Int) + (r : Int)))
        refine ⟨p, ls, rfl, sx_new (sx_trans (sx_new s1' hz) s4) hp, d4.new hp, ?_, fun m => d4.in_ p m hp⟩
        rw [← els]
        exact upd_same
      · rintro σ H4 s4 I4 ⟨bad, ls, rfl, sx4, d4, hb, nb⟩
        have hcell : (cxOf C8.CX0 P w K mg base ["_law_draws_here", "_law_way", "_law_bad"] "_law_junk_signs" (defScope sLawJunkSigns) (He.ga K "_law_junk_signs") cdv A outer s H E).env.cells.lookup ("_law_bad" : Str) = some (s.heap.objs.size + 1) := by rfl
        have hcode : (cxOf C8.CX0 P w K mg base ["_law_draws_here", "_law_way", "_law_bad"] "_law_junk_signs" (defScope sLawJunkSigns) (He.ga K "_law_junk_signs") cdv A outer s H E).env.code = .ref (He.cT K ("_law_junk_signs", none)).1 := by
          obtain ⟨oc, od, dV, kV, doc, pm, an, cdv', ct', osl, e, lk, hcd, _, _⟩ := id F.ex
          have q := He.codeOf_eq (p := ("_law_junk_signs", none)) lk hc1
          show cdv = _
          rw [hc2]
          exact congrArg Value.ref q.symm
        have hm : ((He.cT K ("_law_junk_signs", none)).2, (cxOf C8.CX0 P w K mg base ["_law_draws_here", "_law_way", "_law_bad"] "_law_junk_signs" (defScope sLawJunkSigns) (He.ga K "_law_junk_signs") cdv A outer s H E).env.qual ++ "<lambda>") ∈ tabs K :=
          List.mem_cons_of_mem _ (List.mem_singleton.mpr (congrArg (Prod.mk _) (by kernel_rfl)))
        have hu : ∀ t ∈ tabs K, t.1 = (He.cT K ("_law_junk_signs", none)).2 → t.2 = (cxOf C8.CX0 P w K mg base ["_law_draws_here", "_law_way", "_law_bad"] "_law_junk_signs" (defScope sLawJunkSigns) (He.ga K "_law_junk_signs") cdv A outer s H E).env.qual ++ "<lambda>" := fun t ht e => by
          rcases List.mem_cons.mp ht with q | q
          · rw [q] at e
            exact absurd e TO.ne
          · rw [List.mem_singleton.mp q]
            kernel_rfl
        have T4 := tabs_sx hT D sx4
        refine raw_return (Rt := fun v H' => ∃ (q f : Addr) (dd : LamD), v = .ref q ∧ H' q = some (.tup [.ref f, .ref bad]) ∧ dd.p = "_law_sign" ∧ dd.cell = s.heap.objs.size + 1 ∧ H' f = some (LamO f dd) ∧ H' dd.c = some (CodeO dd.c dd.qual) ∧ H' bad = some (.lst (ls.map tv)) ∧ ExtX [d, a] H H' ∧ Tabs (tabs K) H' ∧ Dr H' d a b (c + 2)) (pe_tup (pa_cons (pe_lamN (T := tabs K) TO.b2 hcode hm hu hcell) (pa_cons (pv 2) pa_nil))) I4 ?_ ?_
        · refine ⟨T4, fun f c' H5 e5 T5 hc' hf => ⟨_, rfl, sl2, fun q hq => ?_⟩⟩
          have n2 := Same.trans (same_new hf) (same_new (o := .tup [.ref f, .ref bad]) hq)
          exact ⟨q, f, _, rfl, upd_same, rfl, rfl, same_new hq _ _ upd_same, n2 _ _ hc', n2 _ _ (e5 _ _ hb fun _ z => nomatch z), ((ExtX.of sx4).trans (ExtX.ofN e5)).trans (ExtX.of (sx_of n2)), T5.ext n2, (d4.extN e5).mono n2⟩
        · rintro H5 s5 v u I5 r ⟨q, f, dd, rfl, hq, e1, e2, hf, hc', hb5, x5, T5, d5⟩
          refine raw_cell (i := 2) I5 r rfl rfl (by rfl) hcell (Nat.le_succ _) fun nC => ?_
          have sc : Same H5 (upd H5 (s.heap.objs.size + 1) (CellO (s.heap.objs.size + 1) (.ref bad))) := same_new nC
          refine k _ (c + 2) q bad (.ref f) (x5.trans (ExtX.of (sx_of sc))) (T5.ext sc) (d5.mono sc) (by omega) (sc _ _ hq) (.inr (.inr ⟨f, dd, bad, ls, rfl, ⟨.inr e1, sc _ _ hf, sc _ _ hc', ?_, sc _ _ hb5⟩, nb⟩))
          rw [e2]
          exact upd_same
    · rintro H2 s3 I3 rfl
      refine wpAny_execs_nil ?_
      refine raw_return (Rt := Q) (pe_tup (pa_cons pe_non (pa_cons (pe_lst pa_nil) pa_nil))) I3 ⟨Nat.zero_le _, fun z hz => ⟨sl2, fun y hy => k1 ((same_new hz).trans (same_new hy)) upd_same (.inr (.inl rfl))⟩⟩ fun _ _ _ _ J r q => raw_ret J r q
end
end TwK

set_option Elab.async false
set_option linter.all false
set_option maxRecDepth 100000
set_option maxHeartbeats 2000000
set_option pp.deepTerms false
set_option pp.deepTerms.threshold 6
namespace TwK
open PySem PySem.Spec PyProof.Rows L2 SX LamX NdefX
section
variable {P : Program} {w : World} {K : PySem.W.Frag} {mg : Str → Option Value} {base : Heap}
theorem sc_jlines : FnScope ["_law_draws_here", "_law_one", "_law_other", "_law_way", "_law_some", "_law_line_here", "_law_bad", "_law_k"] ["_law_draws_here", "_law_one", "_law_other"] (defScope sLawJunkLines) := ⟨rfl, rfl, rfl, by decide +kernel, rfl, by decide +kernel, by decide +kernel⟩
def spJLines (K : PySem.W.Frag) : Sp := fun vs H Q _ => ∃ (d a b p1 p2 : Addr) (c : Nat) (xs ys : List Ln), vs = [.ref d, .ref p1, .ref p2] ∧ Dr H d a b c ∧ c ≤ 1000000 ∧ H p1 = some (.lst (xs.map tv)) ∧ H p2 = some (.lst (ys.map tv)) ∧ p1 ∉ [d, a] ∧ p2 ∉ [d, a] ∧ Tx xs ∧ Tx ys ∧ Tabs (tabs K) H ∧ JOut K d a b c H Q
theorem ok_jlines (T : TX K mg) (TO : TabOk K mg base) (ct : C8.Cal P w K mg base 2 "_law_take" spTake []) (cp : C8.Cal P w K mg base 3 "_law_pick" spPick []) (cb : C8.Cal P w K mg base 1 "_law_blank" spBlank []) : C8.Cal P w K mg base 4 "_law_junk_lines" (spJLines K) [] := by
  obtain ⟨fd, F⟩ := T.f_LawJunkLines
  refine ⟨_, fd, ["_law_draws_here", "_law_one", "_law_other"], [], fn_raw F sc_jlines (fun vs H Q E h => ?_) (fun cdv cc A outer s H vs Q E s1 hc1 hc2 hr h I => ?_), T.g__law_junk_lines, F.kp, F.bindsN (fun _ _ _ _ _ _ us hl => match us, hl with | [_, _, _], _ => rfl), .nil⟩
  · obtain ⟨d, a, b, p1, p2, c, xs, ys, rfl, _⟩ := h
    rfl
  · obtain ⟨d, a, b, p1, p2, c, xs, ys, rfl, D, hc, hp1, hp2, n1, n2, hX, hY, hT, k⟩ := h
    have nd := sc_jlines.nd
    have lx := hX.len
    have ly := hY.len
    refine raw_cons (Nx := fun σ H' => ∃ (way : Nat) (sm : Addr), σ = [some (.ref d), some (.ref p1), some (.ref p2), some (iv way), some (.ref sm), none, none, none] ∧ SameX [d, a] H H' ∧ Dr H' d a b (c + 1)) (Rt := fun _ _ => False) (ps_par (i := 3) (j := 4) (by rfl) nd rfl rfl (by decide) rfl rfl (pa_cons (C8.pe_c ct hr (by decide) rfl (pa_cons (pv 0) (pa_cons pe_int pa_nil))) (pa_cons (pe_lc (own := [("_law_line_here", 5)]) (g := gName 5) (te := tVar 5) (tt := tB (tCall spBlank [] C8.E0 (tCons (tVar 5) tNil))) (by rfl) nd (pi_list (pe_op op_cat (pv 1) (pv 2))) (blkOk_by (own := [("_law_line_here", 5)]) (N := ["_law_draws_here", "_law_one", "_law_other", "_law_way", "_law_some", "_law_line_here", "_law_bad", "_law_k"]) (sc := defScope sLawJunkLines) (by decide +kernel)) (fun _ _ _ _ _ => (pg_name (i := 5) nd rfl (.inl rfl))) (fun _ _ _ _ _ => by exact (pts_one (pt_val (C8.pe_c cb hr (by decide) rfl (pa_cons (pv 5) pa_nil))))) (fun _ _ _ _ _ => (pv 5))) pa_nil)) (by rfl)) I ?_ ?_ fun _ _ _ _ _ _ _ z => z.elim
    · refine ⟨_, rfl, d, a, b, 4, c, rfl, D, by omega, by omega, by omega, fun H1 way s1 dd hr1 => ?_⟩
      refine ⟨_, rfl, _, rfl, p1, p2, _, _, rfl, rfl, s1 _ _ n1 hp1, s1 _ _ n2 hp2, by rw [List.length_map, List.length_map, sizeLine_eq]; omega, fun z hz => ?_⟩
      rw [← List.map_append]
      have d1z : Dr (upd H1 z (.lst ((xs ++ ys).map tv))) d a b (c + 1) := dd.new hz
      refine ⟨z, rfl, ⟨_, SqL.of upd_same⟩, fun f hf => ?_⟩
      refine lc_list (K := K) (a := z) (xs := (xs ++ ys).map tv) (fun i H2 => ∃ ms : List V, Bld (upd H1 z (.lst ((xs ++ ys).map tv))) H2 f ms ∧ ms.length ≤ i) ⟨[], Bld.start (Same.refl _) hf, Nat.zero_le _⟩ (fun i H2 _ ⟨_, B, _⟩ => SqL.of (B.same _ _ upd_same)) ?_ ?_
      · rintro i x H2 hx ⟨ms, B, lm⟩
        have hi := (List.getElem?_eq_some_iff.mp hx).1
        rw [List.length_map, List.length_append] at hi
        obtain ⟨l, hl, rfl⟩ := List.mem_map.mp (List.mem_of_getElem? hx)
        have ll : l.length ≤ 1000 := by
          rcases List.mem_append.mp hl with q | q
          · have := (hX.el l q).2; omega
          · have := (hY.el l q).2; omega
        refine ⟨rfl, _, rfl, l, rfl, ll, fun H3 bb s3 => ⟨_, rfl, iteB (fun _ => ?_) fun _ => ⟨ms, B.call s3, by omega⟩⟩⟩
        exact ⟨_, rfl, _, (B.call s3).at_, by rw [sizeLine_eq]; omega, ms ++ [tv l], (B.call s3).push, by rw [List.length_append, List.length_singleton]; omega⟩
      · rintro H2 ⟨ms, B, lm⟩
        exact ⟨_, _, rfl, way, f, rfl, sx_call (sx_new s1 hz) B.same, d1z.mono B.same⟩
    rintro σ H1 s1 I1 ⟨way, sm, rfl, s1', d1⟩
    have T1 := tabs_sx hT D s1'
    have k1 : ∀ {H2 : Hp} {q bad : Addr} {jv : V}, Same H1 H2 → H2 q = some (.tup [jv, .ref bad]) → JArgX H2 d a jv → Q (.ref q) H2 := fun {H2 q bad jv} s2 hq hj =>
      k H2 (c + 1) q bad jv (ExtX.of (sx_trans s1' (sx_of s2))) (T1.ext s2) (d1.mono s2) (by omega) hq hj
    refine raw_cons (Nx := fun σ H' => σ = [some (.ref d), some (.ref p1), some (.ref p2), some (iv way), some (.ref sm), none, none, none] ∧ H1 = H') (Rt := Q) (ps_if (pt_cmpR op_eq (pv 3) pe_int (nomark _)) (pss_one (ps_ret (pe_tup (pa_cons pe_str (pa_cons (pv 4) pa_nil))))) pss_nil) I1 ⟨_, rfl, rfl, _, rfl, iteD (fun e => ?_) fun e => ⟨rfl, rfl⟩⟩ ?_ fun _ _ _ _ _ J r q => raw_ret J r q
    · exact ⟨_, rfl, sl2, fun y hy => k1 (same_new hy) upd_same (.inl rfl)⟩
    rintro σ H2 s2 I2 ⟨rfl, rfl⟩
    refine raw_if (Nt := fun H' => Same H1 H' ∧ ys ≠ []) (Nf := fun H' => Same H1 H') (PW.pt (pw_and (pt_cmpR op_eq (pv 3) pe_int (nomark _)) (pw_and1 (pt_cmpR (op_neE hr.units0) (pv 2) (pe_lst pa_nil) (nomark _))))) I2 ⟨_, rfl, rfl, _, rfl, iteD (fun e => ?_) fun e => iteF (Same.refl _)⟩ ?_ ?_
    · refine ⟨_, rfl, Nat.zero_le _, fun z hz => ⟨p2, z, _, rfl, rfl, SqL.of (same_new hz _ _ (s1' _ _ n2 hp2)), upd_same, _, rfl, ?_⟩⟩
      cases ys with
      | nil => exact iteF (same_new hz)
      | cons y ys => exact iteT ⟨same_new hz, fun z => nomatch z⟩
    · rintro H2 s3 I3 ⟨s2', hne⟩
      have d2 := d1.mono s2'
      have s12 : SameX [d, a] H H2 := sx_trans s1' (sx_of s2')
      refine raw_cons (Nx := fun σ H' => ∃ (bad : Addr) (ls : List Ln) (c4 : Nat), σ = [some (.ref d), some (.ref p1), some (.ref p2), some (iv way), some (.ref sm), none, some (.ref bad), none] ∧ SameX [d, a] H H' ∧ Dr H' d a b c4 ∧ c4 ≤ c + 50 ∧ H' bad = some (.lst (ls.map tv)) ∧ bad ∉ [d, a]) (Rt := fun _ _ => False) (ps_set (i := 6) nd rfl (.inr rfl) (pe_lc (own := [("_law_k", 7)]) (g := gName 7) (te := tCall spPick [] C8.E0 (tCons (tVar 0) (tCons (tVar 2) tNil))) (by rfl) nd (pi_range1 (by rfl) T.n_range (pa_cons (pe_op op_add pe_int (C8.pe_c ct hr (by decide) rfl (pa_cons (pv 0) (pa_cons pe_int pa_nil)))) pa_nil)) (blkOk_by (own := [("_law_k", 7)]) (N := ["_law_draws_here", "_law_one", "_law_other", "_law_way", "_law_some", "_law_line_here", "_law_bad", "_law_k"]) (sc := defScope sLawJunkLines) (by decide +kernel)) (fun _ _ _ _ _ => (pg_name (i := 7) nd rfl (.inl rfl))) (fun _ _ _ _ _ => pts_nil) (fun _ _ _ _ _ => by exact (C8.pe_c cp hr (by decide) rfl (pa_cons (pv 0) (pa_cons (pv 2) pa_nil)))))) I3 ?_ ?_ fun _ _ _ _ _ _ _ z => z.elim
      · refine ⟨_, rfl, d, a, b, 2, c + 1, rfl, d2, by omega, by omega, by omega, fun H3 r s3 d3 hr3 => ⟨_, _, rfl, rfl, (1 : Int) + (r : Int), rfl, by omega, by omega, fun f hf => ?_⟩⟩
        have er : ((1 : Int) + (r : Int)).toNat = 1 + r := by omega
        rw [er]
        have h23 : SameX [d, a] H H3 := sx_trans s12 s3
        refine lc_range (n := 1 + r) (fun i H' => ∃ (ms : List Ln) (c' : Nat), BX d a b H H' f (ms.map tv) ∧ Dr H' d a b c' ∧ c' ≤ c + 2 + i ∧ ms.length = i) ⟨[], c + 2, BX.start h23 D d3 hf, d3.new hf, by omega, rfl⟩ ?_ ?_
        · rintro i H4 hi ⟨ms, c4, B, d4, lc4, lm⟩
          refine ⟨rfl, _, rfl, _, rfl, d, a, b, c4, _, rfl, d4, by omega, .inr ⟨p2, _, rfl, B.same _ _ n2 hp2, n2, fun z => hne (List.map_eq_nil_iff.mp z), by rw [List.length_map]; omega, fun H5 x s5 d5 hx => ?_⟩⟩
          obtain ⟨l, hl, rfl⟩ := List.mem_map.mp hx
          exact ⟨_, (B.call s5).at_, lsz (by omega), ms ++ [l], c4 + 1, (B.call s5).pushL, (B.call s5).dr d5, by omega, by rw [List.length_append, lm]; rfl⟩
        · rintro H4 ⟨ms, c4, B, d4, lc4, lm⟩
          exact ⟨f, ms, c4, rfl, B.same, d4, by omega, B.at_, B.nin⟩
      · rintro σ H4 s4 I4 ⟨bad, ls, c4, rfl, sx4, d4, lc4, hb, nb⟩
        have hcell : (cxOf C8.CX0 P w K mg base ["_law_draws_here", "_law_one", "_law_other", "_law_way", "_law_some", "_law_line_here", "_law_bad", "_law_k"] "_law_junk_lines" (defScope sLawJunkLines) (He.ga K "_law_junk_lines") cdv A outer s H E).env.cells.lookup ("_law_bad" : Str) = some (s.heap.objs.size + 3) := by rfl
        have hcode : (cxOf C8.CX0 P w K mg base ["_law_draws_here", "_law_one", "_law_other", "_law_way", "_law_some", "_law_line_here", "_law_bad", "_law_k"] "_law_junk_lines" (defScope sLawJunkLines) (He.ga K "_law_junk_lines") cdv A outer s H E).env.code = .ref (He.cT K ("_law_junk_lines", none)).1 := by
          obtain ⟨oc, od, dV, kV, doc, pm, an, cdv', ct', osl, e, lk, hcd, _, _⟩ := id F.ex
          have q := He.codeOf_eq (p := ("_law_junk_lines", none)) lk hc1
          show cdv = _
          rw [hc2]
          exact congrArg Value.ref q.symm
        have hm : ((He.cT K ("_law_junk_lines", none)).2, (cxOf C8.CX0 P w K mg base ["_law_draws_here", "_law_one", "_law_other", "_law_way", "_law_some", "_law_line_here", "_law_bad", "_law_k"] "_law_junk_lines" (defScope sLawJunkLines) (He.ga K "_law_junk_lines") cdv A outer s H E).env.qual ++ "<lambda>") ∈ tabs K :=
          List.mem_cons.mpr (.inl (congrArg (Prod.mk _) (by kernel_rfl)))
        have hu : ∀ t ∈ tabs K, t.1 = (He.cT K ("_law_junk_lines", none)).2 → t.2 = (cxOf C8.CX0 P w K mg base ["_law_draws_here", "_law_one", "_law_other", "_law_way", "_law_some", "_law_line_here", "_law_bad", "_law_k"] "_law_junk_lines" (defScope sLawJunkLines) (He.ga K "_law_junk_lines") cdv A outer s H E).env.qual ++ "<lambda>" := fun t ht e => by
          rcases List.mem_cons.mp ht with q | q
          · rw [q]
            kernel_rfl
          · rw [List.mem_singleton.mp q] at e
            exact absurd e.symm TO.ne
        have T4 := tabs_sx hT D sx4
        refine raw_return (Rt := fun v H' => ∃ (q f : Addr) (dd : LamD), v = .ref q ∧ H' q = some (.tup [.ref f, .ref bad]) ∧ dd.p = "_law_line_here" ∧ dd.cell = s.heap.objs.size + 3 ∧ H' f = some (LamO f dd) ∧ H' dd.c = some (CodeO dd.c dd.qual) ∧ H' bad = some (.lst (ls.map tv)) ∧ ExtX [d, a] H H' ∧ Tabs (tabs K) H' ∧ Dr H' d a b c4) (pe_tup (pa_cons (pe_lamN (T := tabs K) TO.b1 hcode hm hu hcell) (pa_cons (pv 6) pa_nil))) I4 ?_ ?_
        · refine ⟨T4, fun f c' H5 e5 T5 hc' hf => ⟨_, rfl, sl2, fun q hq => ?_⟩⟩
          have n2 := Same.trans (same_new hf) (same_new (o := .tup [.ref f, .ref bad]) hq)
          exact ⟨q, f, _, rfl, upd_same, rfl, rfl, same_new hq _ _ upd_same, n2 _ _ hc', n2 _ _ (e5 _ _ hb fun _ z => nomatch z), ((ExtX.of sx4).trans (ExtX.ofN e5)).trans (ExtX.of (sx_of n2)), T5.ext n2, (d4.extN e5).mono n2⟩
        · rintro H5 s5 v u I5 r ⟨q, f, dd, rfl, hq, e1, e2, hf, hc', hb5, x5, T5, d5⟩
          refine raw_cell (i := 6) I5 r rfl rfl (by rfl) hcell (Nat.le_add_right _ 3) fun nC => ?_
          have sc : Same H5 (upd H5 (s.heap.objs.size + 3) (CellO (s.heap.objs.size + 3) (.ref bad))) := same_new nC
          refine k _ c4 q bad (.ref f) (x5.trans (ExtX.of (sx_of sc))) (T5.ext sc) (d5.mono sc) (by omega) (sc _ _ hq) (.inr (.inr ⟨f, dd, bad, ls, rfl, ⟨.inl e1, sc _ _ hf, sc _ _ hc', ?_, sc _ _ hb5⟩, nb⟩))
          rw [e2]
          exact upd_same
    · rintro H2 s3 I3 s2'
      refine wpAny_execs_nil ?_
      refine raw_return (Rt := Q) (pe_tup (pa_cons pe_non (pa_cons (pe_lst pa_nil) pa_nil))) I3 ⟨Nat.zero_le _, fun z hz => ⟨sl2, fun y hy => k1 (s2'.trans ((same_new hz).trans (same_new hy))) upd_same (.inr (.inl rfl))⟩⟩ fun _ _ _ _ J r q => raw_ret J r q
end
end TwK

set_option Elab.async false
set_option linter.all false
set_option maxRecDepth 100000
set_option maxHeartbeats 2000000
set_option pp.deepTerms false
set_option pp.deepTerms.threshold 6
namespace TwK
open PySem PySem.Spec PyProof.Rows L2 SX
theorem slice_mid {l : Ln} {a b : Nat} (h1 : a ≤ b) (h2 : b ≤ l.length) : Txt.slice (S l) (some (a : Int)) (some (b : Int)) = S ((l.drop a).take (b - a)) := by
  have e := beq_iff_eq.mp (slice_closes (x := S l) (i := (a : Int)) (j := (b : Int)) ⟨by omega, by omega, by show (b : Int) ≤ (l.length : Int); omega⟩)
  refine e.trans (TL.ext_tl ?_)
  show (l.drop ((a : Nat) : Int).toNat).take ((b : Int) - (a : Int)).toNat = (l.drop a).take (b - a)
  rw [show ((b : Int) - (a : Int)).toNat = b - a by omega]
  rfl
theorem SpOk.drop {side n : Nat} : ∀ {ss : List Span} {a i : Nat} {s : Span}, SpOk side n ss a → ss[i]? = some s → okW side s.w ∧ s.lo < s.hi ∧ s.hi ≤ n ∧ SpOk side n (ss.drop (i + 1)) s.hi
  | [], _, i, _, _, e => by simp at e
  | s :: r, a, 0, _, h, e => by
    simp at e
    subst e
    exact ⟨h.1, h.2.2.1, h.2.2.2.1, h.2.2.2.2⟩
  | s :: r, a, i + 1, _, h, e => SpOk.drop (ss := r) (i := i) h.2.2.2.2 (by simpa using e)
theorem leftT_len (l : Ln) : ∀ (ss : List Span) (a : Nat), (leftT l ss a).length ≤ l.length + ss.length * l.length
  | [], a => by
    show (l.drop a).length ≤ _
    rw [List.length_drop]
    omega
  | s :: r, a => by
    have ih := leftT_len l r s.hi
    show ((l.drop a).take (s.lo - a) ++ leftT l r s.hi).length ≤ _
    rw [List.length_append, List.length_take, List.length_drop, List.length_cons, Nat.succ_mul]
    omega
section
variable {P : Program} {w : World} {K : PySem.W.Frag} {mg : Str → Option Value} {base : Heap}
theorem sc_left : FnScope ["_law_placed", "_law_found", "_law_at", "_law_word", "_law_low", "_law_high"] ["_law_placed"] (defScope sLawLeft) := ⟨rfl, rfl, rfl, by decide +kernel, rfl, by decide +kernel, by decide +kernel⟩
def spLeft : Sp := fun vs H Q _ => ∃ (v : V) (side : Nat) (s : Sd), vs = [v] ∧ SideAt H v s ∧ SideOk side s ∧ s.l.length ≤ 1000 ∧ ∀ H' : Hp, Same H H' → Q (tv (leftT s.l s.sp 0)) H'
theorem ok_left (T : TX K mg) : C8.Cal P w K mg base 1 "_law_left" spLeft [] := by
  refine calN T.f_LawLeft T.g__law_left sc_left (fun _ _ _ _ _ _ us hl => match us, hl with | [_], _ => rfl) (fun vs H Q E h => ?_) (fun cdv A outer s H vs Q E hr h => ?_)
  · obtain ⟨v, side, s, rfl, _⟩ := h
    rfl
  · obtain ⟨v, side, sd, rfl, ⟨p, q, rfl, hp, us, hq, hU⟩, hok, hl, k⟩ := h
    have nd := sc_left.nd
    refine ⟨_, (pss_cons (ps_asg (pe_tup (pa_cons pe_str (pa_cons pe_int pa_nil))) (pg_tup (by rfl) (pgs_cons (pg_name (i := 1) nd rfl (.inl rfl)) (pgs_cons (pg_name (i := 2) nd rfl (.inl rfl)) pgs_nil))))
  (C8.pss_cut (ps_for PassesOwn.never rfl (pi_list (pe_ix ix_tup (pv 0) pe_int (fun _ _ => rfl))) (pg_tup (by rfl) (pgs_cons (pg_name (i := 3) nd rfl (.inl rfl)) (pgs_cons (pg_name (i := 4) nd rfl (.inl rfl)) (pgs_cons (pg_name (i := 5) nd rfl (.inl rfl)) pgs_nil))))
  (pss_one (ps_par (i := 1) (j := 2) (by rfl) nd rfl rfl (by decide) rfl rfl (pa_cons (pe_op op_add_str (pv 1) (pe_slice C8.sl_txt (pe_ix ix_tup (pv 0) pe_int (fun _ _ => rfl)) (po_some (pv 2)) (po_some (pv 4)))) (pa_cons (pv 5) pa_nil)) (by rfl))))
  (pss_one (ps_ret (pe_op op_add_str (pv 1) (pe_slice C8.sl_txt (pe_ix ix_tup (pv 0) pe_int (fun _ _ => rfl)) (po_some (pv 2)) po_none)))))), ?_⟩
    have ul := Paired.length hU
    have spl := hok.len
    have szl : (S sd.l).length ≤ sizeLine := S_line hl
    refine ⟨sl2, fun z hz => ⟨z, _, rfl, SqT.of upd_same, rfl, _, _, rfl, _, _, rfl, rfl, ?_⟩⟩
    have h0 : ∀ {o : HO}, Same H (upd H z o) := same_new hz
    let Inv' : Nat → L2.St → Hp → Prop := fun i σ H' => ∃ (f : Ln) (at_ : Nat) (v3 v4 v5 : Option V), σ = [some (.ref p), some (tv f), some (iv at_), v3, v4, v5] ∧ Same H H' ∧ f.length ≤ 2000 * i ∧ at_ ≤ sd.l.length ∧ f ++ leftT sd.l (sd.sp.drop i) at_ = leftT sd.l sd.sp 0 ∧ SpOk side sd.l.length (sd.sp.drop i) at_
    refine ⟨Inv' sd.sp.length, ?_, ?_⟩
    · refine ⟨_, rfl, p, _, _, _, rfl, rfl, SqT.of (h0 _ _ hp), at_of (j := 2) rfl rfl, q, rfl, ⟨_, SqL.of (h0 _ _ hq)⟩, for_list (K := K) (a := q) (xs := us) Inv' ⟨[], 0, _, _, _, rfl, h0, Nat.zero_le _, Nat.zero_le _, by rw [List.drop_zero]; rfl, by rw [List.drop_zero]; exact hok.sp⟩ (fun i σ H' _ ⟨_, _, _, _, _, _, s1, _⟩ => SqL.of (s1 _ _ hq)) ?_ ?_⟩
      · rintro i x σ H' hx ⟨f, at_, v3, v4, v5, rfl, s1, lf, la, e, so⟩
        obtain ⟨sp, hsp, t, rfl, ht⟩ := Paired.at_ hU hx
        have hi : i < sd.sp.length := (List.getElem?_eq_some_iff.mp hsp).1
        rw [drop_at hsp] at e so
        obtain ⟨o1, o2, o3, o4, o5⟩ := so
        have emid : Txt.slice (S sd.l) (some (at_ : Int)) (some (sp.lo : Int)) = S ((sd.l.drop at_).take (sp.lo - at_)) := slice_mid o2 (by omega)
        have lmid : ((sd.l.drop at_).take (sp.lo - at_)).length ≤ 1000 := by
          rw [List.length_take, List.length_drop]
          omega
        refine ⟨t, _, rfl, SqT.of (s1 _ _ ht), rfl, _, _, rfl, _, _, rfl, _, _, rfl, rfl, ?_⟩
        refine ⟨_, rfl, _, rfl, p, _, _, _, rfl, rfl, SqT.of (s1 _ _ hp), at_of (j := 1) rfl rfl, _, rfl, _, rfl, _, rfl, _, rfl, S sd.l, rfl, szl, _, _, rfl, congrArg V.str emid, ?_, ?_⟩
        · rw [S_len, S_len, sizeLine_eq]
          omega
        · rw [S_cat]
          refine ⟨_, rfl, _, _, rfl, f ++ (sd.l.drop at_).take (sp.lo - at_), sp.hi, _, _, _, rfl, s1, by rw [List.length_append]; omega, o4, ?_, o5⟩
          rw [List.append_assoc]
          exact e
      · rintro σ H' I'
        rw [ul] at I'
        exact I'
    · rintro σ H' ⟨f, at_, v3, v4, v5, rfl, s1, lf, la, e, _⟩
      rw [List.drop_length] at e
      have efr : Txt.slice (S sd.l) (some (at_ : Int)) none = S (sd.l.drop at_) := by
        rw [slice_from (by omega)]
        rfl
      refine ⟨_, rfl, _, rfl, p, _, _, _, rfl, rfl, SqT.of (s1 _ _ hp), at_of (j := 1) rfl rfl, _, rfl, _, rfl, S sd.l, rfl, szl, _, _, rfl, congrArg V.str efr, ?_, ?_⟩
      · rw [S_len, S_len, List.length_drop, sizeLine_eq]
        omega
      · rw [S_cat]
        have e : f ++ sd.l.drop at_ = leftT sd.l sd.sp 0 := e
        rw [e]
        exact k H' s1
end
end TwK

set_option Elab.async false
set_option linter.all false
set_option maxRecDepth 100000
set_option maxHeartbeats 2000000
set_option pp.deepTerms false
set_option pp.deepTerms.threshold 6
namespace TwK
open PySem PySem.Spec PyProof.Rows L2 SX
def wordsV (side : Nat) : List V := if side = 0 then [.str "delete", .str "replace"] else [.str "insert", .str "replace"]
theorem inV_words {side : Nat} {w : Wd} (h : okW side w) : inV (.str w.s) (wordsV side) = true := by
  unfold okW at h
  unfold wordsV
  by_cases hs : side = 0
  · rw [if_pos hs] at h ⊢
    rcases h with e | e <;> rw [e] <;> kernel_rfl
  · rw [if_neg hs] at h ⊢
    rcases h with e | e <;> rw [e] <;> kernel_rfl
theorem flat_words (side : Nat) : (wordsV side).all flatV = true := by
  unfold wordsV
  split <;> rfl
section
variable {P : Program} {w : World} {K : PySem.W.Frag} {mg : Str → Option Value} {base : Heap}
theorem sc_sright : FnScope ["_law_placed", "_law_words", "_law_at", "_law_word", "_law_low", "_law_high"] ["_law_placed", "_law_words"] (defScope sLawSpansRight) := ⟨rfl, rfl, rfl, by decide +kernel, rfl, by decide +kernel, by decide +kernel⟩
def spSRight : Sp := fun vs H Q _ => ∃ (v : V) (side : Nat) (s : Sd) (wq : Addr), vs = [v, .ref wq] ∧ SideAt H v s ∧ SideOk side s ∧ s.l.length ≤ 1000 ∧ H wq = some (.lst (wordsV side)) ∧ ∀ H' : Hp, Same H H' → Q (.bl true) H'
theorem ok_sright (T : TX K mg) : C8.Cal P w K mg base 1 "_law_spans_right" spSRight [] := by
  refine calN T.f_LawSpansRight T.g__law_spans_right sc_sright (fun _ _ _ _ _ _ us hl => match us, hl with | [_, _], _ => rfl) (fun vs H Q E h => ?_) (fun cdv A outer s H vs Q E hr h => ?_)
  · obtain ⟨v, side, s, wq, rfl, _⟩ := h
    rfl
  · obtain ⟨v, side, sd, wq, rfl, ⟨p, q, rfl, hp, us, hq, hU⟩, hok, hl, hw, k⟩ := h
    have nd := sc_sright.nd
    refine ⟨_, (pss_cons (ps_set (i := 2) nd rfl (.inl rfl) pe_int)
  (C8.pss_cut (ps_for PassesOwn.never rfl (pi_list (pe_ix ix_tup (pv 0) pe_int (fun _ _ => rfl))) (pg_tup (by rfl) (pgs_cons (pg_name (i := 3) nd rfl (.inl rfl)) (pgs_cons (pg_name (i := 4) nd rfl (.inl rfl)) (pgs_cons (pg_name (i := 5) nd rfl (.inl rfl)) pgs_nil))))
  (pss_cons (ps_if (PW.pt (pw_or (pt_cmpR op_notIn_seq (pv 3) (pv 1) (by rfl)) (pw_or1 (pt_not (pt_chain3 op_le op_lt op_le (pv 2) (pv 4) (pv 5) (pe_callB call_len (by rfl) T.n_len PySem.boot_len (pa_cons (pe_ix ix_tup (pv 0) pe_int (fun _ _ => rfl)) pa_nil))))))) (pss_one (ps_ret pe_bl)) pss_nil)
  (pss_one (ps_set (i := 2) nd rfl (.inl rfl) (pv 5)))))
  (pss_one (ps_ret pe_bl)))), ?_⟩
    have ul := Paired.length hU
    let Inv' : Nat → L2.St → Hp → Prop := fun i σ H' => ∃ (at_ : Nat) (v3 v4 v5 : Option V), σ = [some (.ref p), some (.ref wq), some (iv at_), v3, v4, v5] ∧ Same H H' ∧ SpOk side sd.l.length (sd.sp.drop i) at_
    refine ⟨Inv' sd.sp.length, ?_, ?_⟩
    · refine ⟨_, rfl, p, _, _, _, rfl, rfl, SqT.of hp, at_of (j := 2) rfl rfl, q, rfl, ⟨_, SqL.of hq⟩, for_list (K := K) (a := q) (xs := us) Inv' ⟨0, _, _, _, rfl, Same.refl _, by rw [List.drop_zero]; exact hok.sp⟩ (fun i σ H' _ ⟨_, _, _, _, _, s1, _⟩ => SqL.of (s1 _ _ hq)) ?_ ?_⟩
      · rintro i x σ H' hx ⟨at_, v3, v4, v5, rfl, s1, so⟩
        obtain ⟨sp, hsp, t, rfl, ht⟩ := Paired.at_ hU hx
        rw [drop_at hsp] at so
        obtain ⟨o1, o2, o3, o4, o5⟩ := so
        have i1 : (at_ : Int) ≤ (sp.lo : Int) := by omega
        have i2 : (sp.lo : Int) < (sp.hi : Int) := by omega
        have i3 : (sp.hi : Int) ≤ (sd.l.length : Int) := by omega
        refine ⟨t, _, rfl, SqT.of (s1 _ _ ht), rfl, _, _, rfl, _, _, rfl, _, _, rfl, rfl, ?_⟩
        refine ⟨_, rfl, _, rfl, wq, _, rfl, .inl (SqL.of (s1 _ _ hw)), rfl, flat_words side, _, rfl, iteB (fun e => ?_) fun _ => ?_⟩
        · have z : (!inV (.str sp.w.s) (wordsV side)) = true := e
          rw [inV_words o1] at z
          cases z
        · refine ⟨_, rfl, _, rfl, _, _, rfl, rfl, _, rfl, ?_⟩
          refine iteD (fun _ => ⟨_, rfl, _, _, rfl, rfl, _, rfl, iteD (fun _ => ⟨_, rfl, p, _, _, _, rfl, rfl, SqT.of (s1 _ _ hp), at_of (j := 1) rfl rfl, _, sd.l.length, rfl, ⟨S_line hl, (S_len sd.l).symm⟩, _, _, rfl, rfl, _, rfl, ?_⟩) fun z => absurd i2 z⟩) fun z => absurd i1 z
          have e3 : decide ((sp.hi : Int) ≤ ((sd.l.length : Nat) : Int)) = true := decide_eq_true i3
          rw [e3]
          exact ⟨_, rfl, sp.hi, _, _, _, rfl, s1, o5⟩
      · rintro σ H' I'
        rw [ul] at I'
        exact I'
    · rintro σ H' ⟨at_, v3, v4, v5, rfl, s1, _⟩
      exact k H' s1
end
end TwK

set_option Elab.async false
set_option linter.all false
set_option maxRecDepth 100000
set_option maxHeartbeats 2000000
set_option pp.deepTerms false
set_option pp.deepTerms.threshold 6
namespace TwK
open PySem PySem.Spec PyProof.Rows L2 SX
section
variable {X : Cx}
/-! ### two lists of equal flat tuples -/
def SameTup (K : PySem.W.Frag) (H : Hp) (v u : V) : Prop := ∃ p q zs, v = .ref p ∧ u = .ref q ∧ SqT K H p zs ∧ SqT K H q zs ∧ ∀ z ∈ zs, flatB z = true
def rNeT2 (K : PySem.W.Frag) : R2 := fun x y H Q => ∃ a b xs ys, x = .ref a ∧ y = .ref b ∧ SqL K H a xs ∧ SqL K H b ys ∧ Paired (SameTup K H) xs ys ∧ Q (.bl false) H
theorem same_tup {pins : List (Addr × Obj)} {s : Shared} {σ : L2.St} {H : Hp} (I : Inv X pins σ H s) {A : Around} (hu : A.units + 1 < cLine) {v u : V} {v' u' : Value} (h : SameTup X.K H v u) (r1 : RelV v v') (r2 : RelV u u') : SeqAt.EqAt A s v' u' true := by
  obtain ⟨p, q, zs, rfl, rfl, hp, hq, hf⟩ := h
  cases r1
  cases r2
  by_cases e : p = q
  · subst e
    exact SeqAt.EqAt.same _
  · obtain ⟨us, ra, ta, _⟩ := I.tuple hp
    obtain ⟨ws, rb, tb, _⟩ := I.tuple hq
    have hsz : us.toArray.size = ws.toArray.size := by rw [List.size_toArray, List.size_toArray, ← ra.length, ← rb.length]
    have rc := SeqAt.RcAt.tuples (A := A) (s := s) (e := fun _ => true) ta tb (by omega) (fun j h1 h2 => by
      have hj : j < zs.length := by rw [ra.length]; simpa using h1
      obtain ⟨u1, g1, k1⟩ := ra.get (List.getElem?_eq_getElem hj)
      obtain ⟨u2, g2, k2⟩ := rb.get (List.getElem?_eq_getElem hj)
      have e1 : us.toArray[j] = u1 := by
        have := List.getElem?_eq_some_iff.mp g1
        simpa using this.2
      have e2 : ws.toArray[j] = u2 := by
        have := List.getElem?_eq_some_iff.mp g2
        simpa using this.2
      rw [e1, e2]
      exact eqAt_same k1 k2 (hf _ (List.getElem_mem hj)))
    have eb : ((List.range (min us.toArray.size ws.toArray.size)).all (fun _ => true) && us.toArray.size == ws.toArray.size) = true := by
      rw [hsz]
      simp
    rw [eb] at rc
    exact SeqAt.EqAt.of_refs e rc
theorem op_neT2 (hu : X.A.units + 64 < cLine) : OpR X (compareOp .NotEq) (rNeT2 X.K) := by
  intro pins s σ H x y v u Q I rx ry h
  obtain ⟨a, b, xs, ys, rfl, rfl, ha, hb, hP, q⟩ := h
  cases rx
  cases ry
  obtain ⟨us, ra, pa, _⟩ := I.list ha
  obtain ⟨ws, rb, pb, _⟩ := I.list hb
  have hl := Paired.length hP
  have hsz : us.toArray.size = ws.toArray.size := by rw [List.size_toArray, List.size_toArray, ← ra.length, ← rb.length, hl]
  refine SeqAt.RcNeAt.lists (e := fun _ => true) pa.isList pb.isList hsz (by omega) (fun j h1 h2 => ?_) _ _ _ _ (fin_bl I q ?_)
  · have hj : j < xs.length := by rw [ra.length]; simpa using h1
    obtain ⟨z, hz, hS⟩ := Paired.at_ hP (List.getElem?_eq_getElem hj)
    obtain ⟨u1, g1, k1⟩ := ra.get (List.getElem?_eq_getElem hj)
    obtain ⟨u2, g2, k2⟩ := rb.get hz
    have e1 : us.toArray[j] = u1 := by
      have := List.getElem?_eq_some_iff.mp g1
      simpa using this.2
    have e2 : ws.toArray[j] = u2 := by
      have := List.getElem?_eq_some_iff.mp g2
      simpa using this.2
    rw [e1, e2]
    exact same_tup I (A := X.A.in1) (by show X.A.units + 1 + 1 < cLine; omega) hS k1 k2
  · simp
end
end TwK

set_option Elab.async false
set_option linter.all false
set_option maxRecDepth 100000
set_option maxHeartbeats 2000000
set_option pp.deepTerms false
set_option pp.deepTerms.threshold 6
namespace TwK
open PySem PySem.Spec PyProof.Rows L2 SX
/-! ### the iterator of enumerate(list) while its last pair is still held -/
abbrev IsEn (h : Heap) (e it : Addr) (i : Int) (item : Value) (a : Addr) (f : Bool) : Prop :=
  h.get? e = some { cls := .type "enumerate", dict := none, data := .fields #[rawInt a, .bool f, .ref it, rawInt i, .none, item], slots := #[] }
section
variable {prog : Program} {w : World} {A : Around} {E : Value → Shared → Prop} {s : Shared}
theorem en_next {e it l a : Addr} {f : Bool} {oa : Obj} {i : Nat} {items : Array Value} {x item : Value} {Q : Option Value → Shared → Prop}
    (he : IsEn s.heap e it i item a f) (ha : s.heap.get? a = some oa) (hae : a ≠ e) (hai : a ≠ it) (hit : s.heap.IsListIter it l i) (hl : s.heap.IsList l items) (hx : items[i]? = some x) (hne : e ≠ it)
    (hQ : ∀ h', IsEn h' e it ((i : Int) + 1) item a true → h'.IsListIter it l (i + 1) → h'.get? s.heap.objs.size = some { cls := .type "tuple", data := .seq #[.int i s.toks, x] } → h'.objs.size = s.heap.objs.size + 1 →
      (∀ b o, b ≠ e → b ≠ it → s.heap.get? b = some o → h'.get? b = some o) → Q (some (.ref s.heap.objs.size)) { s with heap := h', toks := s.toks + 1 }) :
    wpAny (model prog w) A (pyNext (.ref e)) Q E s := by
  have hT : s.TypeIs (.ref e) "enumerate" := ⟨_, he, rfl⟩
  unfold pyNext
  refine wpAny_bind (wpAny_attempt (wpAny_callSpecial?_slot (name := Str.ofString "__next__") hT PySem.F.slot_enumerate_next
    (wpAny_call_entry PySem.F.slot_enumerate_next hT PySem.F.entry_enumerate_next ?_ (PySem.F.args_enumerate_next_1 _))))
  obtain ⟨hp, g, d, tk, os⟩ := s
  show wpAny _ _ (field (.ref e) 2 >>= _) _ _ _
  refine wpAny_bind (wpAny_field he rfl (x := .ref it) rfl ?_)
  refine wpAny_bind (wpAny_nextOf_list_item hit hl hx fun h₁ hit₁ hs₁ => ?_)
  replace hs₁ : Heap.SameBut it hp h₁ := hs₁
  have he₁ : IsEn h₁ e it i item a f := (hs₁.2 e hne).trans he
  show wpAny _ _ (field (.ref e) 3 >>= _) _ _ ⟨h₁, g, d, tk, os⟩
  refine wpAny_bind (wpAny_field he₁ rfl (x := rawInt i) rfl ?_)
  show wpAny _ _ (field (.ref e) 4 >>= _) _ _ ⟨h₁, g, d, tk, os⟩
  refine wpAny_bind (wpAny_field he₁ rfl (x := .none) rfl ?_)
  show wpAny _ _ (mkInt i >>= _) _ _ ⟨h₁, g, d, tk, os⟩
  refine wpAny_bind (wpAny_mkInt ?_)
  show wpAny _ _ (setField (.ref e) 3 (rawInt ((i : Int) + 1)) >>= _) _ _ ⟨h₁, g, d, tk + 1, os⟩
  refine wpAny_bind (wpAny_setField_rec he₁ (by simp) fun h₂ he₂ hs₂ => ?_)
  replace hs₂ : Heap.SameBut e h₁ h₂ := hs₂
  replace he₂ : IsEn h₂ e it ((i : Int) + 1) item a f := he₂
  show wpAny _ _ (setField (.ref e) 4 .none >>= _) _ _ ⟨h₂, g, d, tk + 1, os⟩
  refine wpAny_bind (wpAny_setField_rec he₂ (by simp) fun h₃ he₃ hs₃ => ?_)
  replace hs₃ : Heap.SameBut e h₂ h₃ := hs₃
  replace he₃ : IsEn h₃ e it ((i : Int) + 1) item a f := he₃
  show wpAny _ _ (newTuple [.int i tk, x] >>= _) _ _ ⟨h₃, g, d, tk + 1, os⟩
  refine wpAny_bind (wpAny_newTuple ?_)
  have he₄ : IsEn (h₃.push { cls := .type "tuple", data := .seq #[.int i tk, x] }) e it ((i : Int) + 1) item a f := Heap.get?_push_of_some _ he₃
  generalize hh₄ : h₃.push { cls := .type "tuple", data := .seq #[.int i tk, x] } = h₄ at he₄
  have hsz : h₃.objs.size = hp.objs.size := by rw [hs₃.1, hs₂.1, hs₁.1]
  have hel : e < hp.objs.size := Heap.lt_size he
  have ht₄ : h₄.get? hp.objs.size = some { cls := .type "tuple", data := .seq #[.int i tk, x] } := by rw [← hh₄, ← hsz]; exact Heap.get?_push_size _ rfl
  have hz₄ : h₄.objs.size = hp.objs.size + 1 := by rw [← hh₄, Heap.size_push, hsz]
  have hk₄ : ∀ b o, b ≠ e → b ≠ it → hp.get? b = some o → h₄.get? b = some o := fun b o hbe hbi hb => by
    rw [← hh₄]; exact Heap.get?_push_of_some _ (hs₃.extBut b o hbe (hs₂.extBut b o hbe (hs₁.extBut b o hbi hb)))
  have hit₄ : h₄.IsListIter it l (i + 1) := by
    rw [← hh₄]; obtain ⟨o, ho, r⟩ := (hit₁.extBut hs₂.extBut (Ne.symm hne)).extBut hs₃.extBut (Ne.symm hne); exact ⟨o, Heap.get?_push_of_some _ ho, r⟩
  show wpAny _ _ (Builtin.SmallTypes.ownedTupleIsFree (.ref e) >>= _) _ _ ⟨h₄, g, d, tk + 1, os⟩
  rw [hsz]
  clear hh₄ he₃ hs₃ he₂ hs₂ he₁ hs₁ hit₁ hsz h₃ h₂ h₁
  have ha₄ : h₄.get? a = some oa := hk₄ a oa hae hai ha
  have fin : ∀ h₅ : Heap, IsEn h₅ e it ((i : Int) + 1) item a true → Heap.SameBut e h₄ h₅ → Q (some (.ref hp.objs.size)) ⟨h₅, g, d, tk + 1, os⟩ := fun h₅ he₅ hs₅ =>
    hQ h₅ he₅ (hit₄.extBut hs₅.extBut (Ne.symm hne)) (hs₅.extBut _ _ (Nat.ne_of_gt hel) ht₄) (by show h₅.objs.size = hp.objs.size + 1; rw [hs₅.1, hz₄]) fun b o hbe hbi hb => hs₅.extBut b o hbe (hk₄ b o hbe hbi hb)
  refine wpAny_bind ?_
  unfold Builtin.SmallTypes.ownedTupleIsFree
  refine wpAny_bind (wpAny_field he₄ rfl (x := rawInt a) rfl ?_)
  show wpAny _ _ (loadIfAlive ((a : Int).toNat) >>= _) _ _ _
  rw [Int.toNat_natCast]
  refine wpAny_bind (PySem.W.kdx_alive ha₄ ?_)
  simp only [Option.isNone_some, Bool.false_eq_true, if_false]
  refine wpAny_bind (wpAny_field he₄ rfl (x := .bool f) rfl ?_)
  cases f with
  | true =>
    rw [if_neg (show ¬ ((Value.bool true != Value.bool true) = true) from Bool.false_ne_true)]
    refine wpAny_pure ?_
    simp only [Bool.false_eq_true, if_false]
    exact wpAny_pure ⟨_, rfl, wpAny_pure (fin h₄ he₄ (Heap.SameBut.refl _ _))⟩
  | false =>
    rw [if_pos (show (Value.bool false != Value.bool true) = true from rfl)]
    refine wpAny_bind (wpAny_setField_rec he₄ (by simp) fun h₅ he₅ hs₅ => ?_)
    replace hs₅ : Heap.SameBut e h₄ h₅ := hs₅
    replace he₅ : IsEn h₅ e it ((i : Int) + 1) item a true := he₅
    refine wpAny_pure ?_
    simp only [Bool.false_eq_true, if_false]
    exact wpAny_pure ⟨_, rfl, wpAny_pure (fin h₅ he₅ hs₅)⟩
theorem en_end {e it l a : Addr} {f : Bool} {i : Nat} {items : Array Value} {item : Value} {Q : Option Value → Shared → Prop} (hh : A.handled = none)
    (he : IsEn s.heap e it i item a f) (hit : s.heap.IsListIter it l i) (hl : s.heap.IsList l items) (hx : items[i]? = none)
    (hQ : ∀ h', Heap.ExtBut it s.heap h' → Q none { s with heap := h' }) : wpAny (model prog w) A (pyNext (.ref e)) Q E s := by
  have hT : s.TypeIs (.ref e) "enumerate" := ⟨_, he, rfl⟩
  unfold pyNext
  refine wpAny_bind (wpAny_attempt (wpAny_callSpecial?_slot (name := Str.ofString "__next__") hT PySem.F.slot_enumerate_next
    (wpAny_call_entry PySem.F.slot_enumerate_next hT PySem.F.entry_enumerate_next ?_ (PySem.F.args_enumerate_next_1 _))))
  show wpAny _ _ (field (.ref e) 2 >>= _) _ _ _
  refine wpAny_bind (wpAny_field he rfl (x := .ref it) rfl ?_)
  refine wpAny_bind (wpAny_nextOf_list_end hh hit hl hx fun h' x he' hx' => ?_)
  obtain ⟨o, ho, hc⟩ := hx'
  refine wpAny_bind (wpAny_isInstance (T := "StopIteration") (b := true) ⟨o, ho, hc⟩ isSubtype_stop ?_)
  exact wpAny_pure (hQ _ he')
/-- before turn i: fresh, or the last pair at a is held -/
def EnSt (h : Heap) (e it : Addr) (i : Nat) : Prop := (∃ old, IsEnum h e it i old) ∨ ∃ item a f oa, IsEn h e it i item a f ∧ h.get? a = some oa ∧ a ≠ e ∧ a ≠ it
theorem en_step {e it l : Addr} {i : Nat} {items : Array Value} {x : Value} {Q : Option Value → Shared → Prop}
    (hst : EnSt s.heap e it i) (hit : s.heap.IsListIter it l i) (hl : s.heap.IsList l items) (hx : items[i]? = some x) (hne : e ≠ it)
    (hQ : ∀ h', EnSt h' e it (i + 1) → h'.IsListIter it l (i + 1) → h'.get? s.heap.objs.size = some { cls := .type "tuple", data := .seq #[.int i s.toks, x] } → h'.objs.size = s.heap.objs.size + 1 →
      (∀ b o, b ≠ e → b ≠ it → s.heap.get? b = some o → h'.get? b = some o) → Q (some (.ref s.heap.objs.size)) { s with heap := h', toks := s.toks + 1 }) :
    wpAny (model prog w) A (pyNext (.ref e)) Q E s := by
  have e1 : ((i + 1 : Nat) : Int) = (i : Int) + 1 := by omega
  rcases hst with ⟨old, he⟩ | ⟨item, a, f, oa, he, ha, hae, hai⟩
  · have hel : e < s.heap.objs.size := Heap.lt_size he
    have hil : it < s.heap.objs.size := by obtain ⟨_, q, _⟩ := hit; exact Heap.lt_size q
    exact wpAny_pyNext_enum_item he hit hl hx hne fun h' ho hit' ht hz hk => hQ h' (.inr ⟨x, s.heap.objs.size, false, _, by unfold IsEn; rw [e1]; exact ho, ht, Nat.ne_of_gt hel, Nat.ne_of_gt hil⟩) hit' ht hz hk
  · exact en_next he ha hae hai hit hl hx hne fun h' ho hit' ht hz hk => hQ h' (.inr ⟨item, a, true, oa, by unfold IsEn; rw [e1]; exact ho, hk a oa hae hai ha, hae, hai⟩) hit' ht hz hk
theorem en_stop {e it l : Addr} {i : Nat} {items : Array Value} {Q : Option Value → Shared → Prop} (hh : A.handled = none)
    (hst : EnSt s.heap e it i) (hit : s.heap.IsListIter it l i) (hl : s.heap.IsList l items) (hx : items[i]? = none)
    (hQ : ∀ h', Heap.ExtBut it s.heap h' → Q none { s with heap := h' }) : wpAny (model prog w) A (pyNext (.ref e)) Q E s := by
  rcases hst with ⟨old, he⟩ | ⟨item, a, f, oa, he, _, _, _⟩
  · exact wpAny_pyNext_enum_end hh he hit hl hx hQ
  · exact en_end hh he hit hl hx hQ
end
def enumV : Nat → List V → List (Nat × V)
  | _, [] => []
  | n, x :: xs => (n, x) :: enumV (n + 1) xs
def tListEnum (K : PySem.W.Frag) (ta : TA) : TE := fun σ H Q => ta σ H fun vs H1 => ∃ (a : Addr) (xs : List V), vs = [.ref a] ∧ SqL K H1 a xs ∧ xs.length ≤ 5000 ∧
  ∀ (H2 : Hp) (p : Addr) (ts : List V), Same H1 H2 → H2 p = some (.lst ts) → Paired (TupIs H2 fun c : Nat × V => [iv c.1, c.2]) ts (enumV 0 xs) → Q (.ref p) H2
section
variable {M : Model} {A : Around} {E : Value → Shared → Prop} {s : Shared} {e : Addr}
theorem en_nolen : typeLookup (.type "enumerate") "__len__" = pure none := by kernel_rfl
theorem en_nohint : typeLookup (.type "enumerate") "__length_hint__" = pure none := by kernel_rfl
theorem en_hint (hT : s.TypeIs (.ref e) "enumerate") {Q : Bool → Shared → Prop} (h : Q true s) : wpAny M A (Builtin.List.listLengthHint (.ref e)) Q E s := by
  unfold Builtin.List.listLengthHint
  refine wpAny_bind (wpAny_specialOf hT en_nolen ?_)
  refine PySem.W.KFB.if_not rfl ?_
  refine PySem.W.KFB.if_not rfl ?_
  refine wpAny_bind (wpAny_specialOf hT en_nohint ?_)
  exact wpAny_pure h
end
section
variable {X : Cx} {pins : List (Addr × Obj)} {σ : L2.St} {S e it a : Addr} {xs : List V} {H0 : Hp}
def enP : Nat × V → List V := fun c => [iv c.1, c.2]
theorem enumV_len : ∀ (n : Nat) (xs : List V), (enumV n xs).length = xs.length
  | _, [] => rfl
  | n, _ :: xs => by rw [enumV, List.length_cons, List.length_cons, enumV_len]
theorem enumV_at : ∀ (n : Nat) (xs : List V) (i : Nat), (enumV n xs)[i]? = (xs[i]?).map fun x => (n + i, x)
  | _, [], i => by simp [enumV]
  | n, x :: xs, 0 => by simp [enumV]
  | n, x :: xs, i + 1 => by
    rw [enumV, List.getElem?_cons_succ, List.getElem?_cons_succ, enumV_at, show n + 1 + i = n + (i + 1) by omega]
theorem EnSt.upd {h : Heap} {i : Nat} {F : Obj → Obj} {oS : Obj} (st : EnSt h e it i) (hS : h.get? S = some oS) (hS2 : ∃ o, (h.update S F).get? S = some o) (hSe : S ≠ e) : EnSt (h.update S F) e it i := by
  have oth : ∀ b o, b ≠ S → h.get? b = some o → (h.update S F).get? b = some o := fun b o hb q => (Heap.get?_update_other _ _ (Ne.symm hb)).trans q
  rcases st with ⟨old, he⟩ | ⟨item, a, f, oa, he, ha, h1, h2⟩
  · exact .inl ⟨old, oth e _ hSe.symm he⟩
  · by_cases hb : a = S
    · obtain ⟨o, ho⟩ := hS2
      exact .inr ⟨item, a, f, o, oth e _ hSe.symm he, by rw [hb]; exact ho, h1, h2⟩
    · exact .inr ⟨item, a, f, oa, oth e _ hSe.symm he, oth a _ hb ha, h1, h2⟩
theorem FpOk.at_ {H H' : Hp} {b : Addr} (h : FpOk X pins H b) (hn : H' b = none) : FpOk X pins H' b := ⟨hn, h.2⟩
theorem en_loop {A1 : Around} {R : Result → Shared → Prop} (hh : A1.in1.handled = none) (hne : e ≠ it) (hSe : S ≠ e) (hSit : S ≠ it) (hsq : SqL X.K H0 a xs) (hl5 : xs.length ≤ 5000)
    (hdone : ∀ ts H s, Inv X pins σ H s → Bld H0 H S ts → Paired (TupIs (Own H0 [S] H) enP) ts (enumV 0 xs) → R (.ok (.ret .none)) s) :
    ∀ (k i : Nat) (ts : List V) (H : Hp) (s : Shared), xs.length - i = k → i ≤ xs.length → Inv X pins σ H s → Bld H0 H S ts → Paired (TupIs (Own H0 [S] H) enP) ts ((enumV 0 xs).take i) → EnSt s.heap e it i → s.heap.IsListIter it a i → FpOk X pins H e → FpOk X pins H it →
      codeAny (model X.prog X.w) A1 (.builtin "list.extend.loop" ⟨[.ref S, .ref e, .none], []⟩) R s := by
  intro k
  induction k with
  | zero =>
    intro i ts H s hk hi I B hP hst hit fe fi
    have hin : i = xs.length := by omega
    obtain ⟨its, rv, pl, hz⟩ := I.list (B.same.seq hsq)
    refine codeAny_builtin PySem.F.entry_extend_loop ?_
    rw [Around.under_plainId PySem.F.plain_extend_loop _]
    show wpAny _ A1.in1 (pyNext (.ref e) >>= _) _ _ s
    refine wpAny_bind (en_stop hh hst hit pl.isList (by rw [List.getElem?_toArray]; exact List.getElem?_eq_none (by rw [← rv.length]; omega)) fun h' hk' => ?_)
    have I1 : Inv X pins σ H { s with heap := h' } := I.turned (t' := s.toks) (it := it) (fun b o hb q => hk' b o hb q) fi.1 fi.2.1 fi.2.2.2.1 fi.2.2.2.2.1 fi.2.2.2.2.2
    refine wpAny_pure (hdone ts H _ I1 B ?_)
    rw [hin, ← enumV_len 0 xs, List.take_length] at hP
    exact hP
  | succ k ih =>
    intro i ts H s hk hi I B hP hst hit fe fi
    have hlt : i < xs.length := by omega
    obtain ⟨its, rv, pl, hz⟩ := I.list (B.same.seq hsq)
    obtain ⟨u, hu, ru⟩ := rv.get (List.getElem?_eq_getElem hlt)
    have tl : ts.length = i := by
      rw [Paired.length hP, List.length_take, enumV_len]
      omega
    refine codeAny_builtin PySem.F.entry_extend_loop ?_
    rw [Around.under_plainId PySem.F.plain_extend_loop _]
    show wpAny _ A1.in1 (pyNext (.ref e) >>= _) _ _ s
    refine wpAny_bind (en_step hst hit pl.isList (x := u) (by simpa using hu) hne fun h' hst' hit' ht hz' hkp => ?_)
    have nT : H s.heap.objs.size = none := I.hok.fresh (Nat.le_refl _)
    have I1 : Inv X pins σ (upd H s.heap.objs.size (.tup (enP (i, xs[i])))) { s with heap := h', toks := s.toks + 1 } := I.turnedNew (t' := s.toks + 1) (ch := [e, it]) (T := s.heap.objs.size) (fun b o hb q => hkp b o (fun z => hb (by simp [z])) (fun z => hb (by simp [z])) q)
      (fun b hb => by
        rcases List.mem_cons.mp hb with z | z
        · rw [z]; exact fe
        · rw [List.mem_singleton.mp z]; exact fi) (Nat.le_refl _) ⟨by show 2 ≤ sizeLine; decide, [.int i s.toks, u], .cons ⟨_, rfl⟩ (.cons ru .nil), ⟨_, ht, rfl, 0, rfl⟩⟩
    have B1 := B.new (o := .tup (enP (i, xs[i]))) nT
    obtain ⟨z2, its2, n2, r2, hl2, e2⟩ := I1.lstM B1.at_
    show wpAny _ A1.in1 (updateSeq S (·.push (.ref s.heap.objs.size)) >>= _) _ _ _
    have I2 := I1.lset (f := (·.push (Value.ref s.heap.objs.size))) (its' := its2 ++ [Value.ref s.heap.objs.size]) (ys := ts ++ [.ref s.heap.objs.size]) (t' := s.toks + 1) B1.at_ e2 (by simp) (r2.append (.cons (show L2.RelV (V.ref s.heap.objs.size) (Value.ref s.heap.objs.size) from rfl) .nil)) (by rw [List.length_append, List.length_singleton, sizeLine_eq]; omega)
    obtain ⟨B2, P2⟩ := B.pushT (g := enP) (c := (i, xs[i])) nT hP
    have nte : e ≠ s.heap.objs.size := fun z => by
      rcases hst with ⟨old, q⟩ | ⟨_, _, _, _, q, _⟩
      · exact Nat.lt_irrefl _ (z ▸ Heap.lt_size q)
      · exact Nat.lt_irrefl _ (z ▸ Heap.lt_size q)
    have nti : it ≠ s.heap.objs.size := fun z => by
      obtain ⟨_, q, _⟩ := hit
      exact Nat.lt_irrefl _ (z ▸ Heap.lt_size q)
    refine wpAny_bind (wpAny_updateSeq e2 rfl (wpAny_pure ⟨plainId_quiet PySem.F.plain_extend_loop _, ih (i + 1) (ts ++ [.ref s.heap.objs.size]) _ _ (by omega) hlt I2 B2 ?_ ?_ ?_ ?_ ?_⟩) (by rw [List.size_toArray, ← hl2, sizeLine_eq]; omega) (by show (its2.toArray.push _).size ≤ sizeLine + 1; rw [Array.size_push, List.size_toArray, ← hl2, sizeLine_eq]; omega))
    · have e3 : (enumV 0 xs)[i]? = some (i, xs[i]) := by
        rw [enumV_at, List.getElem?_eq_getElem hlt, Nat.zero_add]
        rfl
      rw [take_at e3]
      exact P2
    · exact EnSt.upd hst' e2 ⟨_, Heap.get?_update_self _ e2 rfl⟩ hSe
    · exact hit'.at fun o q => (Heap.get?_update_other _ _ hSit).trans q
    · exact FpOk.at_ fe (by rw [upd_ne (Ne.symm hSe), upd_ne nte]; exact fe.1)
    · exact FpOk.at_ fi (by rw [upd_ne (Ne.symm hSit), upd_ne nti]; exact fi.1)
end
section
variable {X : Cx}
theorem pe_listEnum {e : Expr} {ta : TA} {p1 p2 p3 p4 : Pos} (hc : X.calm = true) (hg1 : Gl X "list") (hm1 : X.mg "list" = none) (hg2 : Gl X "enumerate") (hm2 : X.mg "enumerate" = none) (ha : PA X [e] ta)
    (hs : starEach [e] X.env = [(false, eval e X.env)] := by rfl) (hs2 : starEach [.Call (.Name "enumerate" p2) [e] [] p3] X.env = (false, eval (.Call (.Name "enumerate" p2) [e] [] p3) X.env) :: starEach [] X.env := by rfl) :
    PE X (.Call (.Name "list" p1) [.Call (.Name "enumerate" p2) [e] [] p3] [] p4) (tListEnum X.K ta) := by
  refine ⟨fun pins s σ H Q I h => ?_⟩
  refine Call_ (ld_blt I hg1 hm1 boot_list (PyProof.Rows.callWith_type1 (args_cons ?_ hs2) hs2 rfl))
  refine Call_ (ld_blt I hg2 hm2 boot_enumerate (PyProof.Rows.callWith_type1 (thn (ha.run p3 pins s σ H _ I h) fun us s1 ⟨vs, H1, I1, r1, q1⟩ => ?_) hs rfl))
  obtain ⟨a, xs, e1, hx, hl5, q⟩ := q1
  subst e1
  obtain ⟨u, rfl, ru⟩ := r1.one
  cases ru
  obtain ⟨its, rv, pl, hz⟩ := I1.list hx
  refine call_enumerate_list pl.isList fun h' he hit hsz hk => ?_
  refine args_nil ?_
  have I2 : Inv X pins σ H1 { s1 with heap := h' } := I1.kept (t' := s1.toks) hk
  obtain ⟨e, ee⟩ : ∃ e : Addr, e = s1.heap.objs.size + 1 := ⟨_, rfl⟩
  obtain ⟨it, ei⟩ : ∃ it : Addr, it = s1.heap.objs.size := ⟨_, rfl⟩
  rw [← ee] at he ⊢
  rw [← ei] at he hit
  have hne : e ≠ it := by rw [ee, ei]; exact Nat.succ_ne_self _
  have elt : e < h'.objs.size := Heap.lt_size he
  have ilt : it < h'.objs.size := by rw [hsz, ei]; exact Nat.lt_add_of_pos_right (by decide)
  have fe0 : FpOk X pins H1 e := I1.fpOk (by rw [ee]; exact Nat.le_succ _) (I1.hok.fresh (by rw [ee]; exact Nat.le_succ _))
  have fi0 : FpOk X pins H1 it := I1.fpOk (by rw [ei]; exact Nat.le_refl _) (I1.hok.fresh (by rw [ei]; exact Nat.le_refl _))
  refine callType_codes (Q₁ := fun obj s₁ => obj = .ref h'.objs.size ∧ s₁ = { s1 with heap := h'.push { cls := .type "list", data := .seq #[] } }) PySem.F.called_list (PySem.F.typeCall_list_1 _) PySem.F.entry_list_init
    (code_list_new _ ⟨rfl, rfl⟩) fun obj s₁ h₁ => ?_
  obtain ⟨rfl, rfl⟩ := h₁
  have hS : (h'.push { cls := .type "list", data := .seq #[] }).get? h'.objs.size = some { cls := .type "list", data := .seq #[] } := Heap.get?_push_size _ rfl
  refine ⟨⟨_, hS, rfl⟩, PySem.F.args_list_init_2 _ _, ?_⟩
  have fr : H1 h'.objs.size = none := I2.hok.fresh (Nat.le_refl _)
  have I3 : Inv X pins σ (upd H1 h'.objs.size (.lst [])) { s1 with heap := h'.push { cls := .type "list", data := .seq #[] } } := I2.lnew (its := []) (t' := s1.toks) .nil (Nat.zero_le _)
  have hSe : h'.objs.size ≠ e := Nat.ne_of_gt elt
  have hSit : h'.objs.size ≠ it := Nat.ne_of_gt ilt
  show wpAny _ _ (do let old ← Builtin.List.listItems (.ref h'.objs.size); Builtin.List.listUpdate (.ref h'.objs.size) (fun _ => #[]); letGo old.toList.reverse; Builtin.List.listExtendWith (.ref h'.objs.size) (.ref e) .none) _ _ _
  refine wpAny_bind ?_
  unfold Builtin.List.listItems
  refine wpAny_bind (wpAny_seqItems hS rfl (wpAny_pure ?_))
  show wpAny _ _ (updateSeq h'.objs.size (fun _ => #[]) >>= fun _ => letGo (#[] : Array Value).toList.reverse >>= fun _ => Builtin.List.listExtendWith (.ref h'.objs.size) (.ref e) .none) _ _ _
  refine wpAny_bind (wpAny_updateSeq hS rfl ?_)
  have I4 := I3.lset (f := fun _ => #[]) (its := []) (its' := []) (ys := []) (t' := s1.toks) upd_same hS rfl .nil (Nat.zero_le _)
  rw [upd_upd] at I4
  refine wpAny_bind (wpAny_letGo ?_)
  have hS4 := Heap.get?_update_self (Obj.mapSeq (fun _ => (#[] : Array Value))) hS rfl
  have kp4 : ∀ b o, b ≠ h'.objs.size → h'.get? b = some o → ((h'.push { cls := .type "list", data := .seq #[] }).update h'.objs.size (Obj.mapSeq (fun _ => (#[] : Array Value)))).get? b = some o := fun b o hb q => (Heap.get?_update_other _ _ (Ne.symm hb)).trans (Heap.get?_push_of_some _ q)
  have he4 := kp4 e _ (Ne.symm hSe) he
  have hit4 := hit.at fun o q => kp4 it o (Ne.symm hSit) q
  generalize hh4 : (h'.push { cls := .type "list", data := .seq #[] }).update h'.objs.size (Obj.mapSeq (fun _ => (#[] : Array Value))) = h4 at *
  have B4 : Bld H1 (upd H1 h'.objs.size (.lst [])) h'.objs.size [] := Bld.start (Same.refl _) fr
  have hT : Shared.TypeIs { s1 with heap := h4 } (.ref e) "enumerate" := ⟨_, he4, rfl⟩
  have fe : FpOk X pins (upd H1 h'.objs.size (.lst [])) e := FpOk.at_ fe0 (by rw [upd_ne (Ne.symm hSe)]; exact fe0.1)
  have fi : FpOk X pins (upd H1 h'.objs.size (.lst [])) it := FpOk.at_ fi0 (by rw [upd_ne (Ne.symm hSit)]; exact fi0.1)
  have loop := en_loop (X := X) (pins := pins) (σ := σ) (A1 := X.A.in1) (S := h'.objs.size) (e := e) (it := it) (a := a) (xs := xs) (H0 := H1)
    (R := wants (fun r s₂ => r = .none ∧ EP X pins σ Q (.ref h'.objs.size) s₂) X.xe) (I1.ok.hd hc) hne hSe hSit hx hl5
    (fun ts H s I B hP => ⟨rfl, .ref h'.objs.size, H, I, rfl, q H h'.objs.size ts B.same B.at_ (tups_mono hP own_same)⟩) xs.length 0 []
  unfold Builtin.List.listExtendWith
  refine wpAny_bind (wpAny_typeOf (T := "enumerate") hT ?_)
  have g1 : Builtin.List.listSameRef (.ref h'.objs.size) (.ref e) = false := by simp [Builtin.List.listSameRef, hSe]
  have g2 : (Value.type "enumerate" == Value.type "list") = false := by decide
  have g3 : (Value.type "enumerate" == Value.type "tuple") = false := by decide
  simp only [g1, g2, g3, Bool.or_false, Bool.false_eq_true, if_false]
  refine wpAny_bind (wpAny_pyIter_enum he4 ?_)
  refine wpAny_bind (wpAny_holding (en_hint hT ?_))
  refine wpAny_ite_split (fun _ => ?_) (fun _ => wpAny_pure ⟨plainId_quiet PySem.F.plain_extend_loop _, loop _ _ (Nat.sub_zero _) (Nat.zero_le _) I4 B4 .nil (.inl ⟨_, he4⟩) hit4 fe fi⟩)
  refine wpAny_bind (wpAny_rule ?_)
  refine wpAny_bind ?_
  obtain ⟨z3, its3, n3, r3, hl3, e3⟩ := I4.lstM upd_same
  cases r3
  show wpAny _ _ (updateSeq h'.objs.size (·.push .none) >>= fun _ => updateSeq h'.objs.size (·.pop)) _ _ _
  refine wpAny_bind (wpAny_updateSeq e3 rfl ?_)
  have I5 := I4.lset (f := (·.push Value.none)) (its' := [Value.none]) (ys := [.non]) (t' := s1.toks) upd_same e3 (by simp) (.cons rfl .nil) (by rw [List.length_singleton, sizeLine_eq]; decide)
  have kp5 : ∀ b o, b ≠ h'.objs.size → h4.get? b = some o → (h4.update h'.objs.size (Obj.mapSeq (·.push Value.none))).get? b = some o := fun b o hb q => (Heap.get?_update_other _ _ (Ne.symm hb)).trans q
  obtain ⟨z4, its4, k4, r4, hl4, e4⟩ := I5.lstM upd_same
  obtain ⟨u4, rfl, ru4⟩ := r4.one
  refine wpAny_updateSeq e4 rfl ?_ (by show 1 ≤ sizeLine; rw [sizeLine_eq]; decide) (by show 0 ≤ sizeLine + 1; exact Nat.zero_le _)
  have I6 := I5.lset (f := (·.pop)) (its := [u4]) (its' := []) (ys := []) (t' := s1.toks) upd_same e4 (by rfl) .nil (Nat.zero_le _)
  rw [upd_upd, upd_upd] at I6
  refine wpAny_pure ⟨plainId_quiet PySem.F.plain_extend_loop _, loop _ _ (Nat.sub_zero _) (Nat.zero_le _) I6 B4 .nil (.inl ⟨.none, ?_⟩) ?_ fe fi⟩
  · exact (Heap.get?_update_other _ _ hSe).trans (kp5 e _ (Ne.symm hSe) he4)
  · exact hit4.at fun o q => (Heap.get?_update_other _ _ hSit).trans (kp5 it o (Ne.symm hSit) q)
end
end TwK

set_option Elab.async false
set_option linter.all false
set_option maxRecDepth 100000
set_option maxHeartbeats 4000000
set_option pp.deepTerms false
set_option pp.deepTerms.threshold 6
namespace TwK
open PySem PySem.Spec PyProof.Rows L2 SX LamX
/-- what stands when a turn's rows are made -/
structure TF (K : PySem.W.Frag) (H : Hp) (d a b f g r : Addr) (c : Nat) (xs ys : List Ln) (rows : List Rw) : Prop where
  dr : Dr H d a b c
  tb : Tabs (tabs K) H
  f_ : H f = some (.lst (xs.map tv))
  g_ : H g = some (.lst (ys.map tv))
  rw_ : RowsAt H r rows
  ok : RowsOk rows xs ys
  tx : Tx xs
  ty : Tx ys
  len : rows.length ≤ 200
theorem TF.mono {K : PySem.W.Frag} {H H' : Hp} {d a b f g r : Addr} {c : Nat} {xs ys : List Ln} {rows : List Rw} (h : TF K H d a b f g r c xs ys rows) (s : Same H H') : TF K H' d a b f g r c xs ys rows := by
  obtain ⟨gr, q1, q2⟩ := h.rw_
  exact ⟨h.dr.mono s, h.tb.ext s, s _ _ h.f_, s _ _ h.g_, ⟨gr, s _ _ q1, rows_mono q2 s⟩, h.ok, h.tx, h.ty, h.len⟩
def sdOf (side : Nat) (r : Rw) : Option Sd := if side = 0 then r.a else r.b
def Sds (side : Nat) (rows : List Rw) : List Sd := rows.filterMap (sdOf side)
theorem same_all {K : PySem.W.Frag} {Z : Hp} : ∀ {gs ts : List V} {S : List Sd} {n : Nat} {ls : List Ln}, Paired (TupIs Z fun s : Sd => [iv s.pl, tv s.l]) gs S → Paired (TupIs Z fun c : Nat × V => [iv c.1, c.2]) ts (enumV n (ls.map tv)) → S.map key = enumF n ls → Paired (SameTup K Z) gs ts
  | _, _, [], _, [], .nil, .nil, _ => .nil
  | _, _, [], _, l :: ls, _, _, e => by cases e
  | _, _, s :: S, _, [], _, _, e => by cases e
  | _, _, s :: S, n, l :: ls, .cons h1 t1, .cons h2 t2, e => by
    injection e with e1 e2
    have k1 : s.pl = n := congrArg Prod.fst e1
    have k2 : s.l = l := congrArg Prod.snd e1
    obtain ⟨p, rfl, hp⟩ := h1
    obtain ⟨q, rfl, hq⟩ := h2
    refine .cons ⟨p, q, [iv n, tv l], rfl, rfl, ?_, SqT.of hq, fun z hz => ?_⟩ (same_all t1 t2 e2)
    · rw [← k1, ← k2]
      exact SqT.of hp
    · rcases List.mem_cons.mp hz with e | hz
      · rw [e]; rfl
      · rw [List.mem_singleton.mp hz]; rfl
theorem filterMap_snoc {rows : List Rw} {side i : Nat} {r : Rw} (h : rows[i]? = some r) : Sds side (rows.take (i + 1)) = Sds side (rows.take i) ++ (match sdOf side r with | some s => [s] | none => []) := by
  unfold Sds
  rw [take_at h, List.filterMap_append]
  cases e : sdOf side r <;> simp [e]
theorem mem_enumF {n : Nat} {ls : List Ln} {x : Nat × Ln} (h : x ∈ enumF n ls) : x.2 ∈ ls := by
  obtain ⟨i, hi⟩ := List.mem_iff_getElem?.mp h
  rw [enumF_at] at hi
  cases e : ls[i]? with
  | none => rw [e] at hi; cases hi
  | some l =>
    rw [e] at hi
    have := Option.some.inj hi
    rw [← this]
    exact List.mem_of_getElem? e
/-- what the law asks of one side -/
structure OneSide (side : Nat) (rows : List Rw) (ls : List Ln) : Prop where
  le : side ≤ 1
  keys : (Sds side rows).map key = enumF 0 ls
  ok : ∀ s ∈ Sds side rows, SideOk side s ∧ s.l.length ≤ 60
theorem one_side {rows : List Rw} {xs ys ls : List Ln} {side : Nat} (h : RowsOk rows xs ys) (hs : (side = 0 ∧ ls = xs) ∨ (side = 1 ∧ ls = ys)) (hx : Tx ls) : OneSide side rows ls := by
  have keys : (Sds side rows).map key = enumF 0 ls := by
    rcases hs with ⟨rfl, rfl⟩ | ⟨rfl, rfl⟩
    · exact h.e0
    · exact h.e1
  refine ⟨by omega, keys, fun s hs2 => ?_⟩
  have k : key s ∈ enumF 0 ls := by rw [← keys]; exact List.mem_map.mpr ⟨s, hs2, rfl⟩
  refine ⟨?_, (hx.el _ (mem_enumF k)).2⟩
  obtain ⟨r, hr, e⟩ := List.mem_filterMap.mp hs2
  rcases hs with ⟨rfl, _⟩ | ⟨rfl, _⟩
  · exact (h.so r hr).1 s e
  · exact (h.so r hr).2 s e
/-- the changed rows' numbers below n -/
def chg (rows : List Rw) (n : Nat) : List Nat := (List.range n).filter (cAt rows)
theorem chg_succ (rows : List Rw) (n : Nat) : chg rows (n + 1) = if cAt rows n = true then chg rows n ++ [n] else chg rows n := by
  unfold chg
  rw [List.range_succ, List.filter_append]
  by_cases h : cAt rows n = true
  · rw [if_pos h, List.filter_cons_of_pos h, List.filter_nil]
  · rw [if_neg h, List.filter_cons_of_neg h, List.filter_nil, List.append_nil]
theorem chg_calm {rows : List Rw} {a : Nat} : ∀ {b : Nat}, a ≤ b → (∀ m, a ≤ m → m < b → cAt rows m = false) → chg rows b = chg rows a
  | 0, h, _ => by rw [show a = 0 by omega]
  | b + 1, h, hc => by
    by_cases e : a = b + 1
    · rw [e]
    · have q := hc b (by omega) (by omega)
      rw [chg_succ, if_neg (by rw [q]; exact Bool.false_ne_true)]
      exact chg_calm (by omega) fun m h1 h2 => hc m h1 (by omega)
theorem chg_len (rows : List Rw) (n : Nat) : (chg rows n).length ≤ n := by
  unfold chg
  have := List.length_filter_le (cAt rows) (List.range n)
  rw [List.length_range] at this
  exact this
/-- where the loop stands: all changed rows before it are told -/
def AtOk (rows : List Rw) (ks : List Nat) : Option Nat → Prop
  | some i => (rows ≠ [] → i < rows.length) ∧ ks = chg rows i ∧ (rows = [] → i = 0)
  | none => ks = chg rows rows.length
def meas (rows : List Rw) : Option Nat → Nat
  | some i => rows.length - i + 1
  | none => 0
theorem at_later {rows : List Rw} {i : Nat} (hi : i < rows.length) (h : cAt rows i = false ∨ cAt rows (i + 1) = false) : AtOk rows (chg rows (i + 1)) (nxK rows (rows.length - 1 - i)) ∧ meas rows (nxK rows (rows.length - 1 - i)) < rows.length - i + 1 := by
  have sp := nxK_spec (rows := rows) (k := rows.length - 1 - i) (by omega)
  cases e : nxK rows (rows.length - 1 - i) with
  | none =>
    rw [e] at sp
    refine ⟨?_, Nat.succ_pos _⟩
    have c := calm (b := rows.length) h fun m h1 _ => sp m (by omega)
    exact (chg_calm (by omega) fun m h1 h2 => c m (by omega) h2).symm
  | some j =>
    rw [e] at sp
    obtain ⟨j1, j2, j3, j4⟩ := sp
    have c := calm (b := j) h fun m h1 h2 => j4 m (by omega) h2
    refine ⟨⟨fun _ => j2, (chg_calm (by omega) fun m h1 h2 => c m (by omega) h2).symm, fun z => ?_⟩, by show rows.length - j + 1 < _; omega⟩
    rw [z] at hi
    exact absurd hi (Nat.not_lt_zero _)
theorem cAt_of {rows : List Rw} {i : Nat} {r : Rw} (h : rows[i]? = some r) : cAt rows i = r.c := by
  unfold cAt
  rw [h]
theorem dp_ints {K : PySem.W.Frag} {H : Hp} : ∀ ks : List Nat, DpAll K H (ks.map fun (k : Nat) => iv k) (ks.map fun (k : Nat) => PyData.int k)
  | [] => .nil
  | k :: ks => .cons (.int _) (dp_ints ks)
theorem ints_lay : ∀ ks : List Nat, PyData.canLayAll0 (ks.map fun (k : Nat) => PyData.int k) = true ∧ PyData.depthAll (ks.map fun (k : Nat) => PyData.int k) ≤ 1
  | [] => ⟨by rw [List.map_nil, PyData.canLayAll0], by rw [List.map_nil, PyData.depthAll]; decide⟩
  | k :: ks => by
    obtain ⟨h1, h2⟩ := ints_lay ks
    refine ⟨?_, ?_⟩
    · rw [List.map_cons, PyData.canLayAll0, h1, Bool.and_true]
      simp [PyData.canLay0]
    · rw [List.map_cons, PyData.depthAll]
      have e : (PyData.int k).depth = 0 := by simp [PyData.depth]
      rw [e]
      omega
theorem ints_shaped (ks : List Nat) : SeqAt.shaped (.list (ks.map fun (k : Nat) => PyData.int k)) = true ∧ PyData.canLay0 (.list (ks.map fun (k : Nat) => PyData.int k)) = true := by
  obtain ⟨h1, h2⟩ := ints_lay ks
  have e : PyData.canLay0 (.list (ks.map fun (k : Nat) => PyData.int k)) = true := by rw [PyData.canLay0]; exact h1
  refine ⟨?_, e⟩
  unfold SeqAt.shaped
  rw [e, Bool.true_and, decide_eq_true_eq, PyData.depth]
  omega
def dSpan (s : Span) : PyData := .tuple [.str s.w.s, .int s.lo, .int s.hi]
theorem dp_spans {K : PySem.W.Frag} {H : Hp} : ∀ {us : List V} {ss : List Span}, Paired (TupIs H Span.v) us ss → DpAll K H us (ss.map dSpan)
  | _, _, .nil => .nil
  | _, _, .cons h t => by
    obtain ⟨a, rfl, ha⟩ := h
    exact .cons (.tup (SqT.of ha) (.cons (.str _) (.cons (.int _) (.cons (.int _) .nil)))) (dp_spans t)
theorem wd_ok (w : Wd) : PyData.strOk w.s = true := by cases w <;> kernel_rfl
theorem spans_lay : ∀ ss : List Span, PyData.canLayAll0 (ss.map dSpan) = true ∧ PyData.depthAll (ss.map dSpan) ≤ 1
  | [] => ⟨by rw [List.map_nil, PyData.canLayAll0], by rw [List.map_nil, PyData.depthAll]; decide⟩
  | s :: ss => by
    obtain ⟨h1, h2⟩ := spans_lay ss
    refine ⟨?_, ?_⟩
    · rw [List.map_cons, PyData.canLayAll0, h1, Bool.and_true]
      simp [dSpan, PyData.canLay0, PyData.canLayAll0, wd_ok]
    · rw [List.map_cons, PyData.depthAll]
      have e : (dSpan s).depth = 1 := by simp [dSpan, PyData.depth, PyData.depthAll]
      rw [e]
      omega
theorem spans_shaped (ss : List Span) : SeqAt.shaped (.list (ss.map dSpan)) = true ∧ PyData.canLay0 (.list (ss.map dSpan)) = true := by
  obtain ⟨h1, h2⟩ := spans_lay ss
  have e : PyData.canLay0 (.list (ss.map dSpan)) = true := by rw [PyData.canLay0]; exact h1
  refine ⟨?_, e⟩
  unfold SeqAt.shaped
  rw [e, Bool.true_and, decide_eq_true_eq, PyData.depth]
  omega
section
variable {P : Program} {w : World} {K : PySem.W.Frag} {mg : Str → Option Value} {base : Heap}
theorem sc_law : FnScope ["_law_script", "_law_draws_here", "_law_turn", "_law_one", "_law_other", "_law_junk", "_law_bad", "_law_blanks", "_law_low", "_law_rows", "_law_side", "_law_text_here", "_law_placed", "_law_words", "_law_left_here", "_law_right", "_law_changed", "_law_pieces", "_law_apart", "_law_found", "_law_at", "_law_later", "_law_row", "_law_part", "_law_k"] ["_law_script"] (defScope sLaw) := ⟨rfl, rfl, rfl, by decide +kernel, rfl, by decide +kernel, by decide +kernel⟩
def spLaw (K : PySem.W.Frag) : Sp := fun vs H Q _ => ∃ (p : Addr) (ns : List Int), vs = [.ref p] ∧ SqL K H p (ns.map V.int) ∧ ns.length ≤ 1000 ∧ Tabs (tabs K) H ∧ ∀ H' : Hp, Q (.bl true) H'
structure LawC (P : Program) (w : World) (K : PySem.W.Frag) (mg : Str → Option Value) (base : Heap) : Prop where
  cdr : C8.Cal P w K mg base 1 "_law_draws" (spDraws K) []
  ct : C8.Cal P w K mg base 2 "_law_take" spTake []
  c2 : C8.Cal P w K mg base 7 "_law_two_texts" spTwo []
  cjl : C8.Cal P w K mg base 4 "_law_junk_lines" (spJLines K) []
  cjs : C8.Cal P w K mg base 3 "_law_junk_signs" (spJSigns K) []
  cp : CalP P w K mg base
  csr : C8.Cal P w K mg base 1 "_law_spans_right" spSRight []
  cle : C8.Cal P w K mg base 1 "_law_left" spLeft []
  cnx : C8.Cal P w K mg base 2 "next_changes" (spNext K) []
theorem ok_law {fd : FuncData} (T : TX K mg) (F : FunD K "law" "law" (defArgs sLaw) (defBody sLaw) (defScope sLaw) (dLaw.dvs K) (dLaw.kws K) (He.ga K "law") fd) (C : LawC P w K mg base) : FnOk P w K mg base C8.CX0 10 (He.ga K "law") fd ["_law_script"] (spLaw K) := by
  refine fnN F sc_law (fun vs H Q E h => ?_) (fun cdv A outer s H vs Q E hr h => ?_)
  · obtain ⟨p, ns, rfl, _⟩ := h
    rfl
  · obtain ⟨scr, ns, rfl, hp, hl, hT, k⟩ := h
    have nd := sc_law.nd
    have c2 := C.c2
    have ct := C.ct
    have cjl := C.cjl
    have cjs := C.cjs
    have csr := C.csr
    have cle := C.cle
    have cnx := C.cnx
    have cdr := C.cdr
    refine ⟨_, (pss_cons (ps_set (i := 1) nd rfl (.inl rfl) (C8.pe_c cdr hr (by decide) rfl (pa_cons (pv 0) pa_nil)))
  (C8.pss_cut (ps_for PassesOwn.never rfl (pi_range1 (by rfl) T.n_range (pa_cons pe_int pa_nil)) (pg_name (i := 2) nd rfl (.inl rfl))
  (C8.pss_cut (ps_asg (C8.pe_c c2 hr (by decide) rfl (pa_cons (pv 1) (pa_cons pe_int (pa_cons pe_int (pa_cons (pe_ix ix_list (pe_lst (pa_cons pe_str (pa_cons pe_str (pa_cons pe_str pa_nil)))) (C8.pe_c ct hr (by decide) rfl (pa_cons (pv 1) (pa_cons pe_int pa_nil))) (fun _ _ => rfl)) pa_nil))))) (pg_tup (by rfl) (pgs_cons (pg_name (i := 3) nd rfl (.inl rfl)) (pgs_cons (pg_name (i := 4) nd rfl (.inl rfl)) pgs_nil))))
  (C8.pss_cut (ps_asg (C8.pe_c cjl hr (by decide) rfl (pa_cons (pv 1) (pa_cons (pv 3) (pa_cons (pv 4) pa_nil)))) (pg_tup (by rfl) (pgs_cons (pg_name (i := 5) nd rfl (.inl rfl)) (pgs_cons (pg_name (i := 6) nd rfl (.inl rfl)) pgs_nil))))
  (C8.pss_cut (ps_asg (C8.pe_c cjs hr (by decide) rfl (pa_cons (pv 1) pa_nil)) (pg_tup (by rfl) (pgs_cons (pg_name (i := 7) nd rfl (.inl rfl)) (pgs_cons (pg_name (i := 8) nd rfl (.inl rfl)) pgs_nil))))
  (C8.pss_cut (ps_set (i := 9) nd rfl (.inr rfl) (pe_pairs C.cp hr (by decide) (by rfl) (pa_cons (pv 3) (pa_cons (pv 4) pa_nil)) (pk_cons (pv 5) (pk_cons (pv 7) pk_nil))))
  (C8.pss_cut (ps_for PassesOwn.never rfl (pi_tup (pe_tup (pa_cons (pe_tup (pa_cons pe_int (pa_cons (pv 3) pa_nil))) (pa_cons (pe_tup (pa_cons pe_int (pa_cons (pv 4) pa_nil))) pa_nil)))) (pg_tup (by rfl) (pgs_cons (pg_name (i := 10) nd rfl (.inr rfl)) (pgs_cons (pg_name (i := 11) nd rfl (.inl rfl)) pgs_nil)))
  (C8.pss_cut (ps_setLc (i := 12) (own := [("_law_row", 22)]) (g := gName 22) (tt := tTest (tOp rNotN (tOp (rIxT K) (tVar 22) (tVar 10)) (tC .non))) (te := tOp (rIxT K) (tVar 22) (tVar 10)) (by rfl) nd rfl rfl (by rfl) (pi_list (pv 9)) (blkOk_by (own := [("_law_row", 22)]) (N := ["_law_script", "_law_draws_here", "_law_turn", "_law_one", "_law_other", "_law_junk", "_law_bad", "_law_blanks", "_law_low", "_law_rows", "_law_side", "_law_text_here", "_law_placed", "_law_words", "_law_left_here", "_law_right", "_law_changed", "_law_pieces", "_law_apart", "_law_found", "_law_at", "_law_later", "_law_row", "_law_part", "_law_k"]) (sc := defScope sLaw) (by decide +kernel)) (fun _ _ _ _ _ => (pg_name (i := 22) nd rfl (.inl rfl))) (fun _ _ _ _ _ => (pts_one (by exact (pt_cmpR op_notN (pe_ix ix_tup (pv 22) (pv 10) (fun _ _ => rfl)) pe_non (nomark _))))) (fun _ _ _ _ _ => (by exact (pe_ix ix_tup (pv 22) (pv 10) (fun _ _ => rfl)))))
  (C8.pss_cut (ps_if (pt_cmpR (op_neT2 hr.units) (pe_lc (own := [("_law_part", 23)]) (g := gName 23) (te := tSl (rSlT K) (tVar 23) tNoPart (tPart (tC (.int 2)))) (by rfl) nd (pi_list (pv 12)) (blkOk_by (own := [("_law_part", 23)]) (N := ["_law_script", "_law_draws_here", "_law_turn", "_law_one", "_law_other", "_law_junk", "_law_bad", "_law_blanks", "_law_low", "_law_rows", "_law_side", "_law_text_here", "_law_placed", "_law_words", "_law_left_here", "_law_right", "_law_changed", "_law_pieces", "_law_apart", "_law_found", "_law_at", "_law_later", "_law_row", "_law_part", "_law_k"]) (sc := defScope sLaw) (by decide +kernel)) (fun _ _ _ _ _ => (pg_name (i := 23) nd rfl (.inl rfl))) (fun _ _ _ _ _ => pts_nil) (fun _ _ _ _ _ => (by exact (pe_slice sl_tup (pv 23) po_none (po_some pe_int))))) (pe_listEnum (by rfl) (by rfl) T.n_list (by rfl) T.n_enumerate (pa_cons (pv 11) pa_nil)) (nomark _)) (pss_one (ps_ret pe_bl)) pss_nil)
  (C8.pss_cut (ps_set (i := 13) nd rfl (.inr rfl) (pe_ix ix_list (pe_lst (pa_cons (pe_lst (pa_cons pe_str (pa_cons pe_str pa_nil))) (pa_cons (pe_lst (pa_cons pe_str (pa_cons pe_str pa_nil))) pa_nil))) (pv 10) (fun _ _ => rfl)))
  (pss_one (ps_if (pt_not (pt_val (pe_callB (cr_all (by rfl)) (by rfl) T.n_all (by decide +kernel) (pa_cons (pe_lc (own := [("_law_part", 23)]) (g := gName 23) (te := tCall spSRight [] C8.E0 (tCons (tVar 23) (tCons (tVar 13) tNil))) (by rfl) nd (pi_list (pv 12)) (blkOk_by (own := [("_law_part", 23)]) (N := ["_law_script", "_law_draws_here", "_law_turn", "_law_one", "_law_other", "_law_junk", "_law_bad", "_law_blanks", "_law_low", "_law_rows", "_law_side", "_law_text_here", "_law_placed", "_law_words", "_law_left_here", "_law_right", "_law_changed", "_law_pieces", "_law_apart", "_law_found", "_law_at", "_law_later", "_law_row", "_law_part", "_law_k"]) (sc := defScope sLaw) (by decide +kernel)) (fun _ _ _ _ _ => (pg_name (i := 23) nd rfl (.inl rfl))) (fun _ _ _ _ _ => pts_nil) (fun _ _ _ _ _ => by exact (C8.pe_c csr hr (by decide) rfl (pa_cons (pv 23) (pa_cons (pv 13) pa_nil))))) pa_nil)))) (pss_one (ps_ret pe_bl)) pss_nil))))))
  (C8.pss_cut (ps_for PassesOwn.never rfl (pi_list (pv 9)) (pg_tup (by rfl) (pgs_cons (pg_name (i := 14) nd rfl (.inl rfl)) (pgs_cons (pg_name (i := 15) nd rfl (.inl rfl)) (pgs_cons (pg_name (i := 16) nd rfl (.inl rfl)) pgs_nil))))
  (C8.pss_cut (ps_if (PW.pt (pw_and (pt_cmpR op_notN (pv 14) pe_non (nomark _)) (pw_and (pt_cmpR op_notN (pv 15) pe_non (nomark _)) (pw_and (pt_cmpR (op_eqE hr.units0) (pe_ix ix_tup (pv 14) pe_int (fun _ _ => rfl)) (pe_lst pa_nil) (nomark _)) (pw_and (pt_cmpR (op_eqE hr.units0) (pe_ix ix_tup (pv 15) pe_int (fun _ _ => rfl)) (pe_lst pa_nil) (nomark _)) (pw_and1 (pt_cmpR op_ne (pe_ix ix_tup (pv 14) pe_int (fun _ _ => rfl)) (pe_ix ix_tup (pv 15) pe_int (fun _ _ => rfl)) (nomark _)))))))) (pss_one (ps_ret pe_bl)) pss_nil)
  (pss_one (ps_if (PW.pt (pw_and (pt_not (pt_val (pv 16))) (pw_and1 (PW.pt (pw_or (pt_cmpR op_ne (pe_ix ix_tup (pv 14) pe_int (fun _ _ => rfl)) (pe_ix ix_tup (pv 15) pe_int (fun _ _ => rfl)) (nomark _)) (pw_or1 (pt_cmpR (op_neE hr.units0) (pe_op op_cat (pe_ix ix_tup (pv 14) pe_int (fun _ _ => rfl)) (pe_ix ix_tup (pv 15) pe_int (fun _ _ => rfl))) (pe_lst pa_nil) (nomark _)))))))) (pss_one (ps_ret pe_bl)) pss_nil))))
  (C8.pss_cut (ps_setLc (i := 17) (own := [("_law_row", 22)]) (g := gName 22) (te := tVar 22) (tt := tAnd (tTest (tOp rNotN (tOp (rIxT K) (tVar 22) (tC (.int 0))) (tC .non))) (tAnd (tTest (tOp rNotN (tOp (rIxT K) (tVar 22) (tC (.int 1))) (tC .non))) (tB (tOp (rIxT K) (tVar 22) (tC (.int 2)))))) (by rfl) nd rfl rfl (by rfl) (pi_list (pv 9)) (blkOk_by (own := [("_law_row", 22)]) (N := ["_law_script", "_law_draws_here", "_law_turn", "_law_one", "_law_other", "_law_junk", "_law_bad", "_law_blanks", "_law_low", "_law_rows", "_law_side", "_law_text_here", "_law_placed", "_law_words", "_law_left_here", "_law_right", "_law_changed", "_law_pieces", "_law_apart", "_law_found", "_law_at", "_law_later", "_law_row", "_law_part", "_law_k"]) (sc := defScope sLaw) (by decide +kernel)) (fun _ _ _ _ _ => (pg_name (i := 22) nd rfl (.inl rfl))) (fun _ _ _ _ _ => (pts_one (by exact (PW.pt (pw_and (pt_cmpR op_notN (pe_ix ix_tup (pv 22) pe_int (fun _ _ => rfl)) pe_non (nomark _)) (pw_and (pt_cmpR op_notN (pe_ix ix_tup (pv 22) pe_int (fun _ _ => rfl)) pe_non (nomark _)) (pw_and1 (pt_val (pe_ix ix_tup (pv 22) pe_int (fun _ _ => rfl)))))))))) (fun _ _ _ _ _ => (pv 22)))
  (C8.pss_cut (ps_for PassesOwn.never rfl (pi_list (pv 17)) (pg_tup (by rfl) (pgs_cons (pg_name (i := 14) nd rfl (.inl rfl)) (pgs_cons (pg_name (i := 15) nd rfl (.inl rfl)) (pgs_cons (pg_name (i := 16) nd rfl (.inl rfl)) pgs_nil))))
  (C8.pss_cut (ps_set (i := 18) nd rfl (.inl rfl) (pe_and (pe_cmpR (op_eqD hr.units) (pe_ix ix_tup (pv 14) pe_int (fun _ _ => rfl)) (pe_lst (pa_cons (pe_tup (pa_cons pe_str (pa_cons pe_int (pa_cons (pe_callB call_len (by rfl) T.n_len PySem.boot_len (pa_cons (pe_ix ix_tup (pv 14) pe_int (fun _ _ => rfl)) pa_nil)) pa_nil)))) pa_nil)) (nomark _)) (pe_one (pe_cmpR (op_eqD hr.units) (pe_ix ix_tup (pv 15) pe_int (fun _ _ => rfl)) (pe_lst (pa_cons (pe_tup (pa_cons pe_str (pa_cons pe_int (pa_cons (pe_callB call_len (by rfl) T.n_len PySem.boot_len (pa_cons (pe_ix ix_tup (pv 15) pe_int (fun _ _ => rfl)) pa_nil)) pa_nil)))) pa_nil)) (nomark _)))))
  (pss_one (ps_if (PW.pt (pw_and (pt_not (pt_val (pv 18))) (pw_and1 (pt_cmpR op_ne (C8.pe_c cle hr (by decide) rfl (pa_cons (pv 14) pa_nil)) (C8.pe_c cle hr (by decide) rfl (pa_cons (pv 15) pa_nil)) (nomark _))))) (pss_one (ps_ret pe_bl)) pss_nil))))
  (pss_cons (ps_par (i := 19) (j := 20) (by rfl) nd rfl rfl (by decide) rfl rfl (pa_cons (pe_lst pa_nil) (pa_cons pe_int pa_nil)) (by rfl))
  (C8.pss_cut (ps_set (i := 21) nd rfl (.inl rfl) (C8.pe_c cnx hr (by decide) rfl (pa_cons (pv 9) pa_nil)))
  (C8.pss_cut (ps_while PassesOwn.never (PW.pt (pw_and (pt_cmpR (op_neE hr.units0) (pv 9) (pe_lst pa_nil) (nomark _)) (pw_and1 (pt_cmpR op_notN (pv 20) pe_non (nomark _)))))
  (pss_one (ps_if (pt_val (pe_ix ix_tup (pe_ix ix_list (pv 9) (pv 20) (fun _ _ => rfl)) pe_int (fun _ _ => rfl))) (pss_cons (ps_expr (pe_bm PySem.F.plainAttrs_list PySem.F.slot_list_append PySem.F.type_list_append mt_append (pv 19) (pa_cons (pv 20) pa_nil)))
  (pss_one (ps_set (i := 20) nd rfl (.inl rfl) (pe_ifExp (PW.pt (pw_and (pt_cmpR op_lt (pe_op op_add (pv 20) pe_int) (pe_callB call_len (by rfl) T.n_len PySem.boot_len (pa_cons (pv 9) pa_nil)) (nomark _)) (pw_and1 (pt_val (pe_ix ix_tup (pe_ix ix_list (pv 9) (pe_op op_add (pv 20) pe_int) (fun _ _ => rfl)) pe_int (fun _ _ => rfl)))))) (pe_op op_add (pv 20) pe_int) (pe_ix ix_list (pv 21) (pv 20) (fun _ _ => rfl)))))) (pss_one (ps_set (i := 20) nd rfl (.inl rfl) (pe_ix ix_list (pv 21) (pv 20) (fun _ _ => rfl)))))))
  (pss_one (ps_if (pt_cmpR (op_neD hr.units) (pv 19) (pe_lc (own := [("_law_k", 24)]) (g := gName 24) (te := tVar 24) (tt := tB (tOp (rIxT K) (tOp (rIxL K) (tVar 9) (tVar 24)) (tC (.int 2)))) (by rfl) nd (pi_range1 (by rfl) T.n_range (pa_cons (pe_callB call_len (by rfl) T.n_len PySem.boot_len (pa_cons (pv 9) pa_nil)) pa_nil)) (blkOk_by (own := [("_law_k", 24)]) (N := ["_law_script", "_law_draws_here", "_law_turn", "_law_one", "_law_other", "_law_junk", "_law_bad", "_law_blanks", "_law_low", "_law_rows", "_law_side", "_law_text_here", "_law_placed", "_law_words", "_law_left_here", "_law_right", "_law_changed", "_law_pieces", "_law_apart", "_law_found", "_law_at", "_law_later", "_law_row", "_law_part", "_law_k"]) (sc := defScope sLaw) (by decide +kernel)) (fun _ _ _ _ _ => (pg_name (i := 24) nd rfl (.inl rfl))) (fun _ _ _ _ _ => (pts_one (by exact (pt_val (pe_ix ix_tup (pe_ix ix_list (pv 9) (pv 24) (fun _ _ => rfl)) pe_int (fun _ _ => rfl)))))) (fun _ _ _ _ _ => (pv 24))) (nomark _)) (pss_one (ps_ret pe_bl)) pss_nil))))))))))))))
  (pss_one (ps_ret pe_bl)))), ?_⟩
    refine ⟨_, rfl, scr, ns, rfl, hp, hl, fun H0 d a b s0 D0 => ?_⟩
    have T0 := hT.ext s0
    refine ⟨fun _ _ => True, ?_, fun σ H' _ => k H'⟩
    refine ⟨6, rfl, by decide, by decide, for_range (n := 6) (fun i σ H' => ∃ (v2 v3 v4 v5 v6 v7 v8 v9 v10 v11 v12 v13 v14 v15 v16 v17 v18 v19 v20 v21 : Option V) (c : Nat), σ = [some (.ref scr), some (.ref d), v2, v3, v4, v5, v6, v7, v8, v9, v10, v11, v12, v13, v14, v15, v16, v17, v18, v19, v20, v21, none, none, none] ∧ Dr H' d a b c ∧ c ≤ 2000 * i ∧ Tabs (tabs K) H') ⟨_, _, _, _, _, _, _, _, _, _, _, _, _, _, _, _, _, _, _, _, 0, rfl, D0, Nat.zero_le _, T0⟩ ?_ fun σ H' _ => trivial⟩
    rintro i σ H1 hi ⟨v2, v3, v4, v5, v6, v7, v8, v9, v10, v11, v12, v13, v14, v15, v16, v17, v18, v19, v20, v21, c, rfl, D1, lc, T1⟩
    generalize hv2 : some (V.int (0 + (i : Int))) = w2
    -- two texts
    refine ⟨fun σ H' => ∃ (c2 : Nat) (f g : Addr) (xs ys : List Ln), σ = [some (.ref scr), some (.ref d), w2, some (.ref f), some (.ref g), v5, v6, v7, v8, v9, v10, v11, v12, v13, v14, v15, v16, v17, v18, v19, v20, v21, none, none, none] ∧ Dr H' d a b c2 ∧ c2 ≤ c + 1001 ∧ Tabs (tabs K) H' ∧ H' f = some (.lst (xs.map tv)) ∧ H' g = some (.lst (ys.map tv)) ∧ f ∉ [d, a] ∧ g ∉ [d, a] ∧ Tx xs ∧ Tx ys, ?_, ?_⟩
    · rw [← hv2]
      refine ⟨_, rfl, sl3, fun z hz => ⟨_, rfl, d, a, b, 3, c, rfl, D1.new hz, by omega, by omega, by omega, fun H2 r s2 D2 hr2 => ?_⟩⟩
      have hz2 : H2 z = some (.lst [.str "abc ", .str "ab \t", .str "abcdef"]) := s2 z _ (fun m => D1.in_ z m hz) upd_same
      have pick : ∃ sg : List Nat, [V.str "abc ", V.str "ab \t", V.str "abcdef"][r]? = some (tv sg) ∧ sg ≠ [] ∧ sg.length ≤ 1000 := by
        match r, hr2 with
        | 0, _ => exact ⟨[97, 98, 99, 32], by kernel_rfl, by decide, by decide⟩
        | 1, _ => exact ⟨[97, 98, 32, 9], by kernel_rfl, by decide, by decide⟩
        | 2, _ => exact ⟨[97, 98, 99, 100, 101, 102], by kernel_rfl, by decide, by decide⟩
      obtain ⟨sg, e1, e2, e3⟩ := pick
      refine ⟨z, _, _, _, rfl, rfl, SqL.of hz2, atI_nat e1, d, a, b, c + 1, sg, rfl, D2, by omega, e2, e3, fun H3 c3 q f g xs ys s3 Bf Bg hq D3 lc3 tx ty => ?_⟩
      refine ⟨q, _, rfl, SqT.of hq, rfl, _, _, rfl, _, _, rfl, rfl, c3, f, g, xs, ys, rfl, D3, by omega, tabs_sx (T1.ext (same_new hz)) (D1.new hz) (sx_trans s2 s3), Bf.at_, Bg.at_, Bf.nin, Bg.nin, tx, ty⟩
    rintro σ H2 ⟨c2, f, g, xs, ys, rfl, D2, lc2, T2, hf, hg, nf, ng, tx, ty⟩
    -- junk of lines
    refine ⟨fun σ H' => ∃ (c3 : Nat) (bad : Addr) (jv : V), σ = [some (.ref scr), some (.ref d), w2, some (.ref f), some (.ref g), some jv, some (.ref bad), v7, v8, v9, v10, v11, v12, v13, v14, v15, v16, v17, v18, v19, v20, v21, none, none, none] ∧ Dr H' d a b c3 ∧ c3 ≤ c2 + 100 ∧ Tabs (tabs K) H' ∧ ExtX [d, a] H2 H' ∧ JArgX H' d a jv, ?_, ?_⟩
    · refine ⟨_, rfl, _, rfl, _, rfl, d, a, b, f, g, c2, xs, ys, rfl, D2, by omega, hf, hg, nf, ng, tx, ty, T2, fun H3 c3 q bad jv x3 T3 D3 lc3 hq hj => ?_⟩
      exact ⟨q, _, rfl, SqT.of hq, rfl, _, _, rfl, _, _, rfl, rfl, c3, bad, jv, rfl, D3, lc3, T3, x3, hj⟩
    rintro σ H3 ⟨c3, bad, jv, rfl, D3, lc3, T3, x3, hj⟩
    refine ⟨fun σ H' => ∃ (c4 : Nat) (sv : V) (v8 : Option V), σ = [some (.ref scr), some (.ref d), w2, some (.ref f), some (.ref g), some jv, some (.ref bad), some sv, v8, v9, v10, v11, v12, v13, v14, v15, v16, v17, v18, v19, v20, v21, none, none, none] ∧ Dr H' d a b c4 ∧ c4 ≤ c3 + 100 ∧ Tabs (tabs K) H' ∧ ExtX [d, a] H2 H' ∧ JArg H' jv ∧ JArg H' sv, ?_, ?_⟩
    · refine ⟨_, rfl, d, a, b, c3, rfl, D3, by omega, T3, fun H4 c4 q bl sv x4 T4 D4 lc4 hq hs => ?_⟩
      exact ⟨q, _, rfl, SqT.of hq, rfl, _, _, rfl, _, _, rfl, rfl, c4, sv, _, rfl, D4, lc4, T4, x3.trans x4, (hj.ext D3 x4).arg, hs.arg⟩
    clear D3 T3 x3 hj
    rintro σ H4 ⟨c4, sv, v8, rfl, D4, lc4, T4, x4, hj, hs⟩
    -- the rows
    refine ⟨fun σ H' => ∃ (r : Addr) (rows : List Rw), σ = [some (.ref scr), some (.ref d), w2, some (.ref f), some (.ref g), some jv, some (.ref bad), some sv, v8, some (.ref r), v10, v11, v12, v13, v14, v15, v16, v17, v18, v19, v20, v21, none, none, none] ∧ TF K H' d a b f g r c4 xs ys rows, ?_, ?_⟩
    · have hf4 := x4 _ _ nf hf (fun _ z => nomatch z)
      have hg4 := x4 _ _ ng hg (fun _ z => nomatch z)
      refine ⟨_, rfl, _, rfl, _, rfl, _, rfl, rfl, rfl, f, g, xs, ys, jv, sv, rfl, SqL.of hf4, SqL.of hg4, tx, ty, hj, hs, fun H5 r ps s5 hps hr5 => ?_⟩
      obtain ⟨gr, q1, q2⟩ := hr5
      have pl := PcsOk.len hps
      have lx := tx.len
      have ly := ty.len
      have rl := rows_len (ps := ps)
      exact ⟨r, rowsOf ps, rfl, D4.mono s5, T4.ext s5, s5 _ _ hf4, s5 _ _ hg4, ⟨gr, own_same _ _ q1, rows_mono q2 own_same⟩, rows_ok hps (fun l hl => (tx.el l hl).1) fun l hl => (ty.el l hl).1, tx, ty, by omega⟩
    clear D4 T4 x4 hj hs T2 D2 hf hg
    rintro σ H5 ⟨r, rows, rfl, F⟩
    -- both sides
    refine ⟨fun σ H' => ∃ (v10 v11 v12 v13 : Option V), σ = [some (.ref scr), some (.ref d), w2, some (.ref f), some (.ref g), some jv, some (.ref bad), some sv, v8, some (.ref r), v10, v11, v12, v13, v14, v15, v16, v17, v18, v19, v20, v21, none, none, none] ∧ TF K H' d a b f g r c4 xs ys rows, ?_, ?_⟩
    · refine ⟨_, rfl, sl2, fun t1 h1 => ⟨_, rfl, sl2, fun t2 h2 => ⟨sl2, fun t0 h0 => ⟨t0, rfl, ⟨_, SqT.of upd_same⟩, ?_⟩⟩⟩⟩
      have e1 := same_new (o := .tup [.int 1, .ref g]) h2 _ _ (upd_same (H := H5) (a := t1) (o := .tup [.int 0, .ref f]))
      let BF : Hp → Prop := fun H' => TF K H' d a b f g r c4 xs ys rows ∧ H' t0 = some (.tup [.ref t1, .ref t2]) ∧ H' t1 = some (.tup [.int 0, .ref f]) ∧ H' t2 = some (.tup [.int 1, .ref g])
      have bmono : ∀ {Ha Hb : Hp}, BF Ha → Same Ha Hb → BF Hb := fun h s => ⟨h.1.mono s, s _ _ h.2.1, s _ _ h.2.2.1, s _ _ h.2.2.2⟩
      refine for_tup (K := K) (a := t0) (xs := [.ref t1, .ref t2]) (fun i σ H' => ∃ (v10 v11 v12 v13 : Option V), σ = [some (.ref scr), some (.ref d), w2, some (.ref f), some (.ref g), some jv, some (.ref bad), some sv, v8, some (.ref r), v10, v11, v12, v13, v14, v15, v16, v17, v18, v19, v20, v21, none, none, none] ∧ BF H') ⟨_, _, _, _, rfl, ((F.mono (same_new h1)).mono (same_new h2)).mono (same_new h0), upd_same, same_new h0 _ _ e1, same_new h0 _ _ upd_same⟩ (fun i σ H' _ ⟨_, _, _, _, _, B⟩ => SqT.of B.2.1) ?_ ?_
      · rintro i x σ H6 hx ⟨v10, v11, v12, v13, rfl, B6⟩
        obtain ⟨side, t, p, ls, rfl, ht, hp6, hside, txl⟩ : ∃ (side : Nat) (t p : Addr) (ls : List Ln), x = .ref t ∧ H6 t = some (.tup [iv side, .ref p]) ∧ H6 p = some (.lst (ls.map tv)) ∧ ((side = 0 ∧ ls = xs ∧ t = t1 ∧ p = f) ∨ (side = 1 ∧ ls = ys ∧ t = t2 ∧ p = g)) ∧ Tx ls := by
          match i, hx with
          | 0, hx => exact ⟨0, t1, f, xs, (Option.some.inj hx).symm, B6.2.2.1, B6.1.f_, .inl ⟨rfl, rfl, rfl, rfl⟩, tx⟩
          | 1, hx => exact ⟨1, t2, g, ys, (Option.some.inj hx).symm, B6.2.2.2, B6.1.g_, .inr ⟨rfl, rfl, rfl, rfl⟩, ty⟩
          | i + 2, hx => simp at hx
        have OS : OneSide side rows ls := one_side B6.1.ok (by rcases hside with ⟨h1, h2, _⟩ | ⟨h1, h2, _⟩; exact .inl ⟨h1, h2⟩; exact .inr ⟨h1, h2⟩) txl
        have OSle := OS.le
        refine ⟨t, _, rfl, SqT.of ht, rfl, _, _, rfl, _, _, rfl, rfl, ?_⟩
        obtain ⟨gr, hgr, hR⟩ := id B6.1.rw_
        have rlen := B6.1.len
        have grl := Paired.length hR
        have slen : ∀ i, (Sds side (rows.take i)).length ≤ 200 := fun i => by
          unfold Sds
          have := List.length_filterMap_le (sdOf side) (rows.take i)
          rw [List.length_take] at this
          omega
        let C0 : L2.St → Hp → Prop := fun σ H' => ∃ (z : Addr) (vs : List V), σ = [some (.ref scr), some (.ref d), w2, some (.ref f), some (.ref g), some jv, some (.ref bad), some sv, v8, some (.ref r), some (iv side), some (.ref p), some (.ref z), v13, v14, v15, v16, v17, v18, v19, v20, v21, none, none, none] ∧ BF H' ∧ H' p = some (.lst (ls.map tv)) ∧ H' z = some (.lst vs) ∧ Paired (SideAt H') vs (Sds side rows)
        refine ⟨C0, ?_, ?_⟩
        · refine ⟨_, rfl, r, rfl, ⟨_, SqL.of hgr⟩, fun z hz => ?_⟩
          refine lc_list (K := K) (a := r) (xs := gr) (fun i H2 => ∃ vs, Bld H6 H2 z vs ∧ Paired (SideAt H6) vs (Sds side (rows.take i))) ⟨[], Bld.start (Same.refl _) hz, .nil⟩ (fun i H2 _ ⟨_, B, _⟩ => SqL.of (B.same _ _ hgr)) ?_ ?_
          · rintro i x H2 hx ⟨vs, B, hP⟩
            obtain ⟨rw', hrw, q, vx, vy, rfl, hq, ox, oy⟩ := Paired.at_ hR hx
            obtain ⟨val, hval, hv⟩ : ∃ val, [vx, vy, V.bl rw'.c][side]? = some val ∧ OSideAt H6 val (sdOf side rw') := by
              rcases hside with ⟨e, _⟩ | ⟨e, _⟩
              · exact ⟨vx, by rw [e]; rfl, by rw [e]; exact ox⟩
              · exact ⟨vy, by rw [e]; rfl, by rw [e]; exact oy⟩
            have hq2 := B.same _ _ hq
            have vl := Paired.length hP
            have sl := slen i
            have snoc := filterMap_snoc (side := side) hrw
            refine ⟨rfl, _, rfl, _, rfl, q, _, _, _, rfl, rfl, SqT.of hq2, at_of rfl hval, rfl, _, rfl, iteNd (fun nv => ?_) fun ev => ?_⟩
            · refine ⟨_, rfl, _, rfl, q, _, _, _, rfl, rfl, SqT.of hq2, at_of rfl hval, _, B.at_, by rw [sizeLine_eq]; omega, vs ++ [val], B.push, ?_⟩
              cases e : sdOf side rw' with
              | none => rw [e] at hv; exact absurd hv nv
              | some sd =>
                rw [e] at hv snoc
                rw [snoc]
                exact Paired.snoc hP hv
            · refine ⟨vs, B, ?_⟩
              cases e : sdOf side rw' with
              | none =>
                rw [e] at snoc
                rw [snoc, List.append_nil]
                exact hP
              | some sd =>
                rw [e] at hv
                obtain ⟨_, _, e3, _⟩ := hv
                rw [e3] at ev
                cases ev
          · rintro H2 ⟨vs, B, hP⟩
            rw [grl, List.take_length] at hP
            exact ⟨z, vs, rfl, bmono B6 B.same, B.same _ _ hp6, B.at_, Paired.mono (fun _ _ q => SideAt.mono q B.same) hP⟩
        clear hgr hR grl
        rintro σ H7 ⟨z, vs, rfl, B7, hp7, hz7, hS7⟩
        have vl7 := Paired.length hS7
        have sl7 := slen rows.length
        rw [List.take_length] at sl7
        refine ⟨C0, ?_, ?_⟩
        · refine ⟨_, rfl, z, rfl, ⟨_, SqL.of hz7⟩, fun z2 hz2 => ?_⟩
          refine lc_list (K := K) (a := z) (xs := vs) (fun i H2 => ∃ gs, Bld H7 H2 z2 gs ∧ Paired (TupIs (Own H7 [z2] H2) fun s : Sd => [iv s.pl, tv s.l]) gs ((Sds side rows).take i)) ⟨[], Bld.start (Same.refl _) hz2, .nil⟩ (fun i H2 _ ⟨_, B, _⟩ => SqL.of (B.same _ _ hz7)) ?_ ?_
          · rintro i x H2 hx ⟨gs, B, hP⟩
            obtain ⟨sd, hsd, a', q', rfl, ha', _⟩ := Paired.at_ hS7 hx
            have gl := Paired.length hP
            rw [List.length_take] at gl
            refine ⟨rfl, _, rfl, _, rfl, a', _, rfl, SqT.of (B.same _ _ ha'), (fun h => absurd h.2 (by show ¬ HT.sIx 3 3 (some 2) = 3; decide)), fun q hq => ⟨_, (B.new hq).at_, by rw [sizeLine_eq]; omega, ?_⟩⟩
            have ecut : cutV [iv sd.pl, tv sd.l, .ref q'] none (some 2) = [iv sd.pl, tv sd.l] := by rfl
            rw [ecut]
            obtain ⟨B2, P2⟩ := B.pushT (g := fun s : Sd => [iv s.pl, tv s.l]) (c := sd) hq hP
            refine ⟨_, B2, ?_⟩
            rw [take_at hsd]
            exact P2
          · rintro H2 ⟨gs, B, hP⟩
            rw [vl7, List.take_length] at hP
            refine ⟨_, rfl, p, ls.map tv, rfl, SqL.of (B.same _ _ hp7), (by rw [List.length_map]; have := txl.len; omega), fun H9 pe ts s9 hpe hts => ?_⟩
            have s79 := B.same.trans s9
            refine ⟨z2, pe, gs, ts, rfl, rfl, SqL.of (s9 _ _ B.at_), SqL.of hpe, same_all (n := 0) (ls := ls) (tups_mono (tups_mono hP own_same) s9) hts OS.keys, _, rfl, iteF ?_⟩
            exact ⟨z, vs, rfl, bmono B7 s79, s79 _ _ hp7, s79 _ _ hz7, Paired.mono (fun _ _ q => SideAt.mono q s79) hS7⟩
        clear hS7 hz7 hp7 B7
        rintro σ H8 ⟨z, vs, rfl, B8, hp8, hz8, hS8⟩
        have vl8 := Paired.length hS8
        refine ⟨fun σ H' => ∃ (wq : Addr), σ = [some (.ref scr), some (.ref d), w2, some (.ref f), some (.ref g), some jv, some (.ref bad), some sv, v8, some (.ref r), some (iv side), some (.ref p), some (.ref z), some (.ref wq), v14, v15, v16, v17, v18, v19, v20, v21, none, none, none] ∧ BF H' ∧ H' z = some (.lst vs) ∧ Paired (SideAt H') vs (Sds side rows) ∧ H' wq = some (.lst (wordsV side)), ?_, ?_⟩
        · refine ⟨sl2, fun z1 k1 => ⟨sl2, fun z2 k2 => ⟨sl2, fun z3 k3 => ?_⟩⟩⟩
          have s8 := ((same_new (o := .lst [.str "delete", .str "replace"]) k1).trans (same_new (o := .lst [.str "insert", .str "replace"]) k2)).trans (same_new (o := .lst [.ref z1, .ref z2]) k3)
          obtain ⟨wq, hw1, hw2⟩ : ∃ wq, [V.ref z1, V.ref z2][side]? = some (.ref wq) ∧ upd (upd (upd H8 z1 (.lst [.str "delete", .str "replace"])) z2 (.lst [.str "insert", .str "replace"])) z3 (.lst [.ref z1, .ref z2]) wq = some (.lst (wordsV side)) := by
            rcases hside with ⟨e, _⟩ | ⟨e, _⟩
            · exact ⟨z1, by rw [e]; rfl, by rw [e]; exact same_new k3 _ _ (same_new k2 _ _ upd_same)⟩
            · exact ⟨z2, by rw [e]; rfl, by rw [e]; exact same_new k3 _ _ upd_same⟩
          exact ⟨_, rfl, z3, _, _, _, rfl, rfl, SqL.of upd_same, at_of rfl hw1, wq, rfl, bmono B8 s8, s8 _ _ hz8, Paired.mono (fun _ _ q => SideAt.mono q s8) hS8, hw2⟩
        clear hS8 hz8 hp8 B8
        rintro σ H9 ⟨wq, rfl, B9, hz9, hS9, hw9⟩
        refine ⟨_, rfl, z, rfl, ⟨_, SqL.of hz9⟩, fun z2 hz2 => ?_⟩
        refine lc_list (K := K) (a := z) (xs := vs) (fun i H2 => Bld H9 H2 z2 ((List.replicate i true).map V.bl)) (Bld.start (Same.refl _) hz2) (fun i H2 _ B => SqL.of (B.same _ _ hz9)) ?_ ?_
        · rintro i x H2 hx B
          obtain ⟨sd, hsd, fx⟩ := Paired.at_ hS9 hx
          obtain ⟨o1, o2⟩ := OS.ok sd (List.mem_of_getElem? hsd)
          have hi := (List.getElem?_eq_some_iff.mp hx).1
          refine ⟨rfl, _, rfl, _, rfl, x, side, sd, wq, rfl, fx.mono B.same, o1, by omega, B.same _ _ hw9, fun H3 s3 => ⟨_, (B.call s3).at_, by rw [List.length_map, List.length_replicate, sizeLine_eq]; omega, ?_⟩⟩
          rw [List.replicate_succ', List.map_append]
          exact (B.call s3).push
        · rintro H2 B
          refine ⟨z2, List.replicate vs.length true, rfl, SqL.of B.at_, _, rfl, ?_⟩
          have e : (List.replicate vs.length true).all id = true := by
            rw [List.all_eq_true]
            intro b hb
            exact (List.mem_replicate.mp hb).2
          rw [e]
          exact iteF ⟨_, _, _, _, rfl, bmono B9 B.same⟩
      · rintro σ H' ⟨v10, v11, v12, v13, rfl, B⟩
        exact ⟨v10, v11, v12, v13, rfl, B.1⟩
    clear F
    rintro σ H6 ⟨v10, v11, v12, v13, rfl, F6⟩
    -- each row
    refine ⟨fun σ H' => ∃ (v14 v15 v16 : Option V), σ = [some (.ref scr), some (.ref d), w2, some (.ref f), some (.ref g), some jv, some (.ref bad), some sv, v8, some (.ref r), v10, v11, v12, v13, v14, v15, v16, v17, v18, v19, v20, v21, none, none, none] ∧ TF K H' d a b f g r c4 xs ys rows, ?_, ?_⟩
    · obtain ⟨gr, hgr, hR⟩ := id F6.rw_
      refine ⟨_, rfl, r, rfl, ⟨_, SqL.of hgr⟩, for_list (K := K) (a := r) (xs := gr) (fun i σ H' => ∃ (v14 v15 v16 : Option V), σ = [some (.ref scr), some (.ref d), w2, some (.ref f), some (.ref g), some jv, some (.ref bad), some sv, v8, some (.ref r), v10, v11, v12, v13, v14, v15, v16, v17, v18, v19, v20, v21, none, none, none] ∧ Same H6 H') ⟨_, _, _, rfl, Same.refl _⟩ (fun i σ H' _ ⟨_, _, _, _, s⟩ => SqL.of (s _ _ hgr)) ?_ ?_⟩
      · rintro i x σ H7 hx ⟨v14, v15, v16, rfl, s7⟩
        obtain ⟨rw', hrw, q, vx, vy, rfl, hq, ox, oy⟩ := Paired.at_ hR hx
        have ro := F6.ok.ro rw' (List.mem_of_getElem? hrw)
        obtain ⟨oa, ob, c⟩ := rw'
        refine ⟨q, _, rfl, SqT.of (s7 _ _ hq), rfl, _, _, rfl, _, _, rfl, _, _, rfl, rfl, ?_⟩
        refine ⟨fun σ H' => σ = [some (.ref scr), some (.ref d), w2, some (.ref f), some (.ref g), some jv, some (.ref bad), some sv, v8, some (.ref r), v10, v11, v12, v13, some vx, some vy, some (.bl c), v17, v18, v19, v20, v21, none, none, none] ∧ Same H6 H', ?_, ?_⟩
        · refine ⟨_, rfl, rfl, _, rfl, iteNd (fun nx => ⟨_, rfl, rfl, _, rfl, iteNd (fun ny => ?_) fun _ => iteF ⟨rfl, s7⟩⟩) fun _ => iteF ⟨rfl, s7⟩⟩
          cases oa with
          | none => exact absurd ox nx
          | some sa =>
            cases ob with
            | none => exact absurd oy ny
            | some sb =>
              obtain ⟨a1, q1, rfl, ha1, us1, hu1, hU1⟩ := ox
              obtain ⟨a2, q2, rfl, ha2, us2, hu2, hU2⟩ := oy
              refine ⟨_, rfl, a1, _, _, _, rfl, rfl, SqT.of (s7 _ _ ha1), at_of (j := 2) rfl rfl, Nat.zero_le _, fun z hz => ?_⟩
              have s8 := s7.trans (same_new (o := .lst []) hz)
              refine ⟨q1, z, us1, rfl, rfl, SqL.of (s8 _ _ hu1), upd_same, _, rfl, ?_⟩
              cases us1 with
              | cons u us => exact iteF ⟨rfl, s8⟩
              | nil =>
                refine iteT ⟨_, rfl, a2, _, _, _, rfl, rfl, SqT.of (s8 _ _ ha2), at_of (j := 2) rfl rfl, Nat.zero_le _, fun z2 hz2 => ?_⟩
                have s9 := s8.trans (same_new (o := .lst []) hz2)
                refine ⟨q2, z2, us2, rfl, rfl, SqL.of (s9 _ _ hu2), upd_same, _, rfl, ?_⟩
                cases us2 with
                | cons u us => exact iteF ⟨rfl, s9⟩
                | nil =>
                  have e1 : sa.sp = [] := by
                    have := Paired.length hU1
                    exact List.length_eq_zero_iff.mp this.symm
                  have e2 : sb.sp = [] := by
                    have := Paired.length hU2
                    exact List.length_eq_zero_iff.mp this.symm
                  have el : sa.l = sb.l := ro.2.1 e1 e2
                  exact iteT ⟨_, rfl, a1, _, _, _, rfl, rfl, SqT.of (s9 _ _ ha1), at_of (j := 1) rfl rfl, _, rfl, a2, _, _, _, rfl, rfl, SqT.of (s9 _ _ ha2), at_of (j := 1) rfl rfl, rfl, _, rfl, iteNd (fun ne => absurd (by rw [el]) ne) fun _ => ⟨rfl, s9⟩⟩
        · rintro σ H8 ⟨rfl, s8⟩
          refine ⟨_, rfl, _, rfl, ?_⟩
          cases c with
          | true => exact iteF ⟨_, _, _, rfl, s8⟩
          | false =>
            refine iteT ?_
            cases oa with
            | none => cases (show false = true from ro)
            | some sa =>
              cases ob with
              | none => cases (show false = true from ro)
              | some sb =>
                obtain ⟨a1, q1, rfl, ha1, us1, hu1, hU1⟩ := ox
                obtain ⟨a2, q2, rfl, ha2, us2, hu2, hU2⟩ := oy
                obtain ⟨el, e1, e2⟩ := ro.1 rfl
                rw [e1] at hU1
                rw [e2] at hU2
                cases hU1
                cases hU2
                refine ⟨_, rfl, a1, _, _, _, rfl, rfl, SqT.of (s8 _ _ ha1), at_of (j := 1) rfl rfl, _, rfl, a2, _, _, _, rfl, rfl, SqT.of (s8 _ _ ha2), at_of (j := 1) rfl rfl, rfl, _, rfl, iteNd (fun ne => absurd (by rw [el]) ne) fun _ => ?_⟩
                refine ⟨_, rfl, a1, _, _, _, rfl, rfl, SqT.of (s8 _ _ ha1), at_of (j := 2) rfl rfl, _, rfl, a2, _, _, _, rfl, rfl, SqT.of (s8 _ _ ha2), at_of (j := 2) rfl rfl, q1, q2, [], [], rfl, rfl, s8 _ _ hu1, s8 _ _ hu2, Nat.zero_le _, fun z hz => ⟨Nat.zero_le _, fun z2 hz2 => ?_⟩⟩
                have s9 := (s8.trans (same_new (o := .lst []) hz)).trans (same_new (o := .lst []) hz2)
                exact ⟨z, z2, [], rfl, rfl, SqL.of (same_new hz2 _ _ upd_same), upd_same, _, rfl, iteF ⟨_, _, _, rfl, s9⟩⟩
      · rintro σ H7 ⟨v14, v15, v16, rfl, s7⟩
        exact ⟨_, _, _, rfl, F6.mono s7⟩
    clear F6
    rintro σ H7 ⟨v14, v15, v16, rfl, F7⟩
    -- the changed pairs
    let PR : Hp → V → Prop := fun Z x => ∃ (rw' : Rw) (sa sb : Sd), rw' ∈ rows ∧ RowAt Z x rw' ∧ rw'.a = some sa ∧ rw'.b = some sb ∧ rw'.c = true
    have prmono : ∀ {Ha Hb : Hp} {x : V}, PR Ha x → Same Ha Hb → PR Hb x := fun ⟨rw', sa, sb, h1, h2, h3⟩ s => ⟨rw', sa, sb, h1, h2.mono s, h3⟩
    refine ⟨fun σ H' => ∃ (z : Addr) (vs : List V), σ = [some (.ref scr), some (.ref d), w2, some (.ref f), some (.ref g), some jv, some (.ref bad), some sv, v8, some (.ref r), v10, v11, v12, v13, v14, v15, v16, some (.ref z), v18, v19, v20, v21, none, none, none] ∧ TF K H' d a b f g r c4 xs ys rows ∧ H' z = some (.lst vs) ∧ ∀ x ∈ vs, PR H' x, ?_, ?_⟩
    · obtain ⟨gr, hgr, hR⟩ := id F7.rw_
      have rlen := F7.len
      have grl := Paired.length hR
      refine ⟨_, rfl, r, rfl, ⟨_, SqL.of hgr⟩, fun z hz => ?_⟩
      refine lc_list (K := K) (a := r) (xs := gr) (fun i H2 => ∃ vs, Bld H7 H2 z vs ∧ (∀ x ∈ vs, PR H7 x) ∧ vs.length ≤ i) ⟨[], Bld.start (Same.refl _) hz, (fun x hx => nomatch hx), Nat.zero_le _⟩ (fun i H2 _ ⟨_, B, _⟩ => SqL.of (B.same _ _ hgr)) ?_ ?_
      · rintro i x H2 hx ⟨vs, B, hP, hlen⟩
        have hi := (List.getElem?_eq_some_iff.mp hx).1
        obtain ⟨rw', hrw, q, vx, vy, rfl, hq, ox, oy⟩ := Paired.at_ hR hx
        have hq2 := B.same _ _ hq
        refine ⟨rfl, _, rfl, q, _, _, _, rfl, rfl, SqT.of hq2, at_of (j := 0) rfl rfl, rfl, _, rfl, iteNd (fun nx => ⟨_, rfl, q, _, _, _, rfl, rfl, SqT.of hq2, at_of (j := 1) rfl rfl, rfl, _, rfl, iteNd (fun ny => ⟨_, rfl, q, _, _, _, rfl, rfl, SqT.of hq2, at_of (j := 2) rfl rfl, _, rfl, ?_⟩) fun _ => iteF ⟨vs, B, hP, by omega⟩⟩) fun _ => iteF ⟨vs, B, hP, by omega⟩⟩
        refine iteB (fun ec => ?_) fun _ => ⟨vs, B, hP, by omega⟩
        refine ⟨_, rfl, _, B.at_, by rw [sizeLine_eq]; omega, vs ++ [.ref q], B.push, fun x hx => ?_, by rw [List.length_append, List.length_singleton]; omega⟩
        rcases List.mem_append.mp hx with m | m
        · exact hP x m
        · rw [List.mem_singleton.mp m]
          obtain ⟨oa, ob, c⟩ := rw'
          cases oa with
          | none => exact absurd ox nx
          | some sa =>
            cases ob with
            | none => exact absurd oy ny
            | some sb => exact ⟨⟨some sa, some sb, c⟩, sa, sb, List.mem_of_getElem? hrw, ⟨q, vx, vy, rfl, hq, ox, oy⟩, rfl, rfl, ec⟩
      · rintro H2 ⟨vs, B, hP, _⟩
        exact ⟨z, vs, rfl, F7.mono B.same, B.at_, fun x hx => prmono (hP x hx) B.same⟩
    clear F7
    rintro σ H8 ⟨z, vs, rfl, F8, hz8, hP8⟩
    refine ⟨fun σ H' => ∃ (v14 v15 v16 v17 v18 : Option V), σ = [some (.ref scr), some (.ref d), w2, some (.ref f), some (.ref g), some jv, some (.ref bad), some sv, v8, some (.ref r), v10, v11, v12, v13, v14, v15, v16, v17, v18, v19, v20, v21, none, none, none] ∧ TF K H' d a b f g r c4 xs ys rows, ?_, ?_⟩
    · refine ⟨_, rfl, z, rfl, ⟨_, SqL.of hz8⟩, for_list (K := K) (a := z) (xs := vs) (fun i σ H' => ∃ (v14 v15 v16 v18 : Option V), σ = [some (.ref scr), some (.ref d), w2, some (.ref f), some (.ref g), some jv, some (.ref bad), some sv, v8, some (.ref r), v10, v11, v12, v13, v14, v15, v16, some (.ref z), v18, v19, v20, v21, none, none, none] ∧ Same H8 H') ⟨_, _, _, _, rfl, Same.refl _⟩ (fun i σ H' _ ⟨_, _, _, _, _, s⟩ => SqL.of (s _ _ hz8)) ?_ ?_⟩
      · rintro i x σ H9 hx ⟨v14, v15, v16, v18, rfl, s9⟩
        obtain ⟨rw', sa, sb, hmem, ⟨q, vx, vy, rfl, hq, ox, oy⟩, ea, eb, ec⟩ := hP8 x (List.mem_of_getElem? hx)
        have ro := F8.ok.ro rw' hmem
        have so := F8.ok.so rw' hmem
        have la := ((one_side F8.ok (.inl ⟨rfl, rfl⟩) tx).ok sa (List.mem_filterMap.mpr ⟨rw', hmem, ea⟩)).2
        have lb := ((one_side F8.ok (.inr ⟨rfl, rfl⟩) ty).ok sb (List.mem_filterMap.mpr ⟨rw', hmem, eb⟩)).2
        obtain ⟨oa, ob, c⟩ := rw'
        cases ea
        cases eb
        cases ec
        obtain ⟨a1, q1, rfl, ha1, us1, hu1, hU1⟩ := id ox
        obtain ⟨a2, q2, rfl, ha2, us2, hu2, hU2⟩ := id oy
        refine ⟨q, _, rfl, SqT.of (s9 _ _ hq), rfl, _, _, rfl, _, _, rfl, _, _, rfl, rfl, ?_⟩
        refine ⟨fun σ H' => ∃ ap : Bool, σ = [some (.ref scr), some (.ref d), w2, some (.ref f), some (.ref g), some jv, some (.ref bad), some sv, v8, some (.ref r), v10, v11, v12, v13, some (.ref a1), some (.ref a2), some (.bl true), some (.ref z), some (.bl ap), v19, v20, v21, none, none, none] ∧ Same H8 H' ∧ (ap = true ∨ leftT sa.l sa.sp 0 = leftT sb.l sb.sp 0), ?_, ?_⟩
        · refine ⟨_, rfl, a1, _, _, _, rfl, rfl, SqT.of (s9 _ _ ha1), at_of (j := 2) rfl rfl, _, rfl, a1, _, _, _, rfl, rfl, SqT.of (s9 _ _ ha1), at_of (j := 1) rfl rfl, _, sa.l.length, rfl, ⟨S_line (by omega), (S_len sa.l).symm⟩, sl3, fun t ht => ⟨sl1, fun zz hzz => ?_⟩⟩
          have sA := (s9.trans (same_new (o := .tup [.str "delete", .int 0, iv sa.l.length]) ht)).trans (same_new (o := .lst [.ref t]) hzz)
          have d1 : Dp K _ (.ref q1) (.list (sa.sp.map dSpan)) := .lst (SqL.of (sA _ _ hu1)) (dp_spans (tups_mono hU1 sA))
          have e1 : Dp K _ (.ref zz) (.list ([(⟨.del, 0, sa.l.length⟩ : Span)].map dSpan)) := .lst (SqL.of upd_same) (.cons (.tup (SqT.of (same_new hzz _ _ upd_same)) (.cons (.str _) (.cons (.int _) (.cons (.int _) .nil)))) .nil)
          refine ⟨_, _, d1, e1, (spans_shaped _).1, (spans_shaped _).1, _, rfl, iteB (fun b1 => ?_) fun b1 => ⟨false, rfl, sA, .inr ?_⟩⟩
          · refine ⟨_, rfl, a2, _, _, _, rfl, rfl, SqT.of (sA _ _ ha2), at_of (j := 2) rfl rfl, _, rfl, a2, _, _, _, rfl, rfl, SqT.of (sA _ _ ha2), at_of (j := 1) rfl rfl, _, sb.l.length, rfl, ⟨S_line (by omega), (S_len sb.l).symm⟩, sl3, fun t2 ht2 => ⟨sl1, fun z2 hz2 => ?_⟩⟩
            have sB := (sA.trans (same_new (o := .tup [.str "insert", .int 0, iv sb.l.length]) ht2)).trans (same_new (o := .lst [.ref t2]) hz2)
            have d2 : Dp K _ (.ref q2) (.list (sb.sp.map dSpan)) := .lst (SqL.of (sB _ _ hu2)) (dp_spans (tups_mono hU2 sB))
            have e2 : Dp K _ (.ref z2) (.list ([(⟨.ins, 0, sb.l.length⟩ : Span)].map dSpan)) := .lst (SqL.of upd_same) (.cons (.tup (SqT.of (same_new hz2 _ _ upd_same)) (.cons (.str _) (.cons (.int _) (.cons (.int _) .nil)))) .nil)
            refine ⟨_, _, d2, e2, (spans_shaped _).1, (spans_shaped _).1, _, rfl, sB, ?_⟩
            rcases ro.2.2 with ⟨_, r2⟩ | r2
            · rw [r2]
              exact .inl (SeqAt.eqv_refl _ (spans_shaped _).2)
            · exact .inr r2
          · rcases ro.2.2 with ⟨r1, _⟩ | r2
            · rw [r1, SeqAt.eqv_refl _ (spans_shaped _).2] at b1
              cases b1
            · exact r2
        · rintro σ HA ⟨ap, rfl, sA, hap⟩
          refine ⟨_, rfl, _, rfl, ?_⟩
          cases ap with
          | true => exact iteF ⟨_, _, _, _, rfl, sA⟩
          | false =>
            have el : leftT sa.l sa.sp 0 = leftT sb.l sb.sp 0 := by
              rcases hap with z | z
              · cases z
              · exact z
            refine iteT ⟨_, rfl, _, 0, sa, rfl, SideAt.mono ox sA, so.1 sa rfl, by omega, fun HB sB => ⟨_, rfl, _, 1, sb, rfl, SideAt.mono oy (sA.trans sB), so.2 sb rfl, by omega, fun HC sC => ⟨rfl, _, rfl, iteNd (fun ne => absurd (by rw [el]) ne) fun _ => ⟨_, _, _, _, rfl, (sA.trans sB).trans sC⟩⟩⟩⟩
      · rintro σ H9 ⟨v14, v15, v16, v18, rfl, s9⟩
        exact ⟨_, _, _, _, _, rfl, F8.mono s9⟩
    clear F8 hz8 hP8
    rintro σ H9 ⟨v14, v15, v16, v17, v18, rfl, F9⟩
    obtain ⟨gr, hgr, hR⟩ := id F9.rw_
    have rlen := F9.len
    have grl := Paired.length hR
    -- from change to change
    refine ⟨Nat.zero_le _, fun fd' hfd => ⟨_, _, rfl, ?_⟩⟩
    refine ⟨fun σ H' => ∃ lt : Addr, σ = [some (.ref scr), some (.ref d), w2, some (.ref f), some (.ref g), some jv, some (.ref bad), some sv, v8, some (.ref r), v10, v11, v12, v13, v14, v15, v16, v17, v18, some (.ref fd'), some (.int 0), some (.ref lt), none, none, none] ∧ Bld H9 H' fd' [] ∧ H' lt = some (.lst (nextL rows)), ?_, ?_⟩
    · have B0 : Bld H9 (upd H9 fd' (.lst [])) fd' [] := Bld.start (Same.refl _) hfd
      refine ⟨_, rfl, r, rows, rfl, (F9.mono B0.same).rw_, by omega, fun H' q s q2 => ⟨q, rfl, B0.call s, q2⟩⟩
    rintro σ HA ⟨lt, rfl, BA, hlA⟩
    let WP : Nat → L2.St → Hp → Prop := fun m σ H' => ∃ (ks : List Nat) (at_ : Option Nat), σ = [some (.ref scr), some (.ref d), w2, some (.ref f), some (.ref g), some jv, some (.ref bad), some sv, v8, some (.ref r), v10, v11, v12, v13, v14, v15, v16, v17, v18, some (.ref fd'), some (ov at_), some (.ref lt), none, none, none] ∧ Bld H9 H' fd' (ks.map fun (k : Nat) => iv k) ∧ H' lt = some (.lst (nextL rows)) ∧ AtOk rows ks at_ ∧ meas rows at_ = m ∧ (rows ≠ [] → lt ≠ fd')
    refine ⟨fun σ H' => ∃ (ks : List Nat) (v20 : Option V), σ = [some (.ref scr), some (.ref d), w2, some (.ref f), some (.ref g), some jv, some (.ref bad), some sv, v8, some (.ref r), v10, v11, v12, v13, v14, v15, v16, v17, v18, some (.ref fd'), v20, some (.ref lt), none, none, none] ∧ Bld H9 H' fd' (ks.map fun (k : Nat) => iv k) ∧ ks = chg rows rows.length, ⟨WP, ⟨_, [], some 0, rfl, BA, hlA, ⟨fun hne => List.length_pos_iff.mpr hne, rfl, fun _ => rfl⟩, rfl, fun hne e => ?_⟩, ?_⟩, ?_⟩
    · have q := BA.at_
      rw [← e, hlA] at q
      injection q with q
      injection q with q
      have q2 := congrArg List.length q
      unfold nextL at q2
      rw [List.length_reverse, List.length_map, List.length_range] at q2
      exact hne (List.length_eq_zero_iff.mp q2)
    · rintro m σ HB ⟨ks, at_, rfl, BB, hlB, aok, em, nlt⟩
      refine ⟨_, rfl, Nat.zero_le _, fun z hz => ⟨r, z, gr, rfl, rfl, SqL.of (same_new hz _ _ (BB.same _ _ hgr)), upd_same, _, rfl, ?_⟩⟩
      have BC := BB.new (o := .lst []) hz
      have hlC := same_new (o := .lst []) hz _ _ hlB
      by_cases he : rows = []
      · have eg : gr = [] := List.length_eq_zero_iff.mp (by rw [grl, he]; rfl)
        have ek : ks = chg rows rows.length := by
          cases at_ with
          | none => exact aok
          | some i =>
            rw [aok.2.1, aok.2.2 he, he]
            rfl
        rw [eg]
        exact iteF ⟨ks, _, rfl, BC, ek⟩
      · have eg : gr ≠ [] := fun z => he (List.length_eq_zero_iff.mp (by rw [← grl, z]; rfl))
        have eb : (if true = true then !gr.isEmpty else gr.isEmpty) = true := by
          cases gr with
          | nil => exact absurd rfl eg
          | cons _ _ => rfl
        rw [eb]
        refine iteT ⟨_, rfl, rfl, _, rfl, iteNd (fun nn => ?_) fun en => ?_⟩
        · cases at_ with
          | none => exact absurd rfl nn
          | some i =>
            obtain ⟨hi', ek, _⟩ := aok
            have hi := hi' he
            have nltf := nlt he
            have em : rows.length - i + 1 = m := em
            obtain ⟨x, hx, fx⟩ := Paired.at2 hR (List.getElem?_eq_getElem hi)
            obtain ⟨q, vx, vy, rfl, hq, _, _⟩ := fx
            have hci : cAt rows i = rows[i].c := cAt_of (List.getElem?_eq_getElem hi)
            have hqC := BC.same _ _ hq
            have hgC := BC.same _ _ hgr
            refine ⟨fun σ H' => ∃ m', m' < m ∧ WP m' σ H', fun σ' H' h => h, ?_⟩
            refine ⟨_, rfl, _, rfl, r, gr, _, _, rfl, rfl, SqL.of hgC, at_of rfl hx, q, _, _, _, rfl, rfl, SqT.of hqC, at_of (j := 2) rfl rfl, _, rfl, iteB (fun c1 => ?_) fun c1 => ?_⟩
            · have kl := chg_len rows i
              have B2 : Bld H9 (upd (upd HB z (.lst [])) fd' (.lst ((ks.map fun (k : Nat) => iv k) ++ [iv i]))) fd' ((chg rows (i + 1)).map fun (k : Nat) => iv k) := by
                rw [chg_succ, if_pos (by rw [hci]; exact c1), ← ek, List.map_append]
                exact BC.push
              have hl2 : (upd (upd HB z (.lst [])) fd' (.lst ((ks.map fun (k : Nat) => iv k) ++ [iv i]))) lt = some (.lst (nextL rows)) := by
                rw [upd_ne nltf]
                exact hlC
              have hg2 := B2.same _ _ hgr
              have later : ∀ (_ : cAt rows i = false ∨ cAt rows (i + 1) = false), ∃ m', m' < m ∧ ∃ at2, V.int 0 = V.int 0 ∧ at2 = nxK rows (rows.length - 1 - i) ∧ AtOk rows (chg rows (i + 1)) at2 ∧ meas rows at2 = m' := fun h => by
                obtain ⟨l1, l2⟩ := at_later hi h
                exact ⟨_, by rw [← em]; exact l2, _, rfl, rfl, l1, rfl⟩
              refine ⟨_, rfl, .inl ⟨rfl, _, SqL.of BC.at_⟩, _, rfl, fd', _, _, rfl, rfl, BC.at_, by rw [List.length_map, sizeLine_eq, ek]; omega, ?_⟩
              refine ⟨_, rfl, _, _, rfl, rfl, _, rfl, _, gr.length, rfl, .inl ⟨gr, SqL.of hg2, rfl⟩, _, _, rfl, rfl, _, rfl, iteD (fun lt1 => ?_) fun nlt1 => iteF ?_⟩
              · have hi1 : i + 1 < rows.length := by omega
                obtain ⟨x2, hx2, fx2⟩ := Paired.at2 hR (List.getElem?_eq_getElem hi1)
                obtain ⟨q2, vx2, vy2, rfl, hq2, _, _⟩ := fx2
                have hci1 : cAt rows (i + 1) = rows[i + 1].c := cAt_of (List.getElem?_eq_getElem hi1)
                refine ⟨_, rfl, _, rfl, _, _, rfl, rfl, r, gr, _, _, rfl, rfl, SqL.of hg2, at_of rfl hx2, q2, _, _, _, rfl, rfl, SqT.of (B2.same _ _ hq2), at_of (j := 2) rfl rfl, _, rfl, iteB (fun c2 => ?_) fun c2 => ?_⟩
                · exact ⟨_, rfl, _, _, rfl, rfl, rows.length - (i + 1) + 1, by omega, _, some (i + 1), rfl, B2, hl2, ⟨fun _ => hi1, rfl, fun z => absurd z he⟩, rfl, nlt⟩
                · obtain ⟨m', hm', at2, _, e2, ok2, me2⟩ := later (.inr (by rw [hci1]; exact c2))
                  exact ⟨_, rfl, _, rfl, lt, _, _, _, rfl, rfl, SqL.of hl2, at_of rfl (by rw [nextL_at hi, ← e2]), m', hm', _, at2, rfl, B2, hl2, ok2, me2, nlt⟩
              · have hc1 : cAt rows (i + 1) = false := by
                  unfold cAt
                  rw [List.getElem?_eq_none (by omega)]
                obtain ⟨m', hm', at2, _, e2, ok2, me2⟩ := later (.inr hc1)
                exact ⟨_, rfl, _, rfl, lt, _, _, _, rfl, rfl, SqL.of hl2, at_of rfl (by rw [nextL_at hi, ← e2]), m', hm', _, at2, rfl, B2, hl2, ok2, me2, nlt⟩
            · have hc0 : cAt rows i = false := by rw [hci]; exact c1
              obtain ⟨l1, l2⟩ := at_later hi (.inl hc0)
              have ek2 : ks = chg rows (i + 1) := by
                rw [chg_succ, if_neg (by rw [hc0]; exact Bool.false_ne_true)]
                exact ek
              rw [← ek2] at l1
              exact ⟨_, rfl, _, rfl, lt, _, _, _, rfl, rfl, SqL.of hlC, at_of rfl (nextL_at hi), _, by rw [← em]; exact l2, ks, _, rfl, BC, hlC, l1, rfl, nlt⟩
        · cases at_ with
          | some i => cases en
          | none => exact ⟨ks, _, rfl, BC, aok⟩
    rintro σ HD ⟨ks, v20, rfl, BD, ek⟩
    have hgD := BD.same _ _ hgr
    refine ⟨_, rfl, _, rfl, _, gr.length, rfl, .inl ⟨gr, SqL.of hgD, rfl⟩, (gr.length : Int), rfl, by omega, by omega, fun z hz => ?_⟩
    have en : ((gr.length : Nat) : Int).toNat = rows.length := by omega
    rw [en]
    refine lc_range (n := rows.length) (fun i H2 => Bld HD H2 z ((chg rows i).map fun (k : Nat) => iv k)) (Bld.start (Same.refl _) hz) ?_ ?_
    · rintro i H2 hi B
      obtain ⟨x, hx, q, vx, vy, rfl, hq, _, _⟩ := Paired.at2 hR (List.getElem?_eq_getElem hi)
      have hci : cAt rows i = rows[i].c := cAt_of (List.getElem?_eq_getElem hi)
      have e0 : (0 : Int) + (i : Int) = ((i : Nat) : Int) := by omega
      have kl := chg_len rows i
      rw [e0]
      refine ⟨rfl, _, rfl, _, rfl, r, gr, _, _, rfl, rfl, SqL.of (B.same _ _ hgD), at_of rfl hx, q, _, _, _, rfl, rfl, SqT.of (B.same _ _ (BD.same _ _ hq)), at_of (j := 2) rfl rfl, _, rfl, iteB (fun c1 => ?_) fun c1 => ?_⟩
      · refine ⟨_, rfl, _, B.at_, by rw [List.length_map, sizeLine_eq]; omega, ?_⟩
        rw [chg_succ, if_pos (by rw [hci]; exact c1), List.map_append]
        exact B.push
      · rw [chg_succ, if_neg (by rw [hci, c1]; exact Bool.false_ne_true)]
        exact B
    · rintro H2 B
      have dA : Dp K H2 (.ref fd') (.list ((chg rows rows.length).map fun (k : Nat) => PyData.int k)) := .lst (SqL.of (by rw [B.same _ _ BD.at_, ek])) (dp_ints _)
      have dB : Dp K H2 (.ref z) (.list ((chg rows rows.length).map fun (k : Nat) => PyData.int k)) := .lst (SqL.of B.at_) (dp_ints _)
      refine ⟨_, _, dA, dB, (ints_shaped _).1, (ints_shaped _).1, _, rfl, ?_⟩
      rw [SeqAt.eqv_refl _ (ints_shaped _).2]
      have FE := F9.mono (BD.same.trans B.same)
      exact iteF ⟨_, _, _, _, _, _, _, _, _, _, _, _, _, _, _, _, _, _, _, _, c4, rfl, FE.dr, by omega, FE.tb⟩
end
end TwK

set_option Elab.async false
set_option linter.all false
set_option maxRecDepth 100000
set_option maxHeartbeats 0
namespace TwK
open PySem PySem.Spec PyProof.Rows L2 SX LamX
section
variable {P : Program} {w : World} {K : PySem.W.Frag} {mg : Str → Option Value} {base : Heap}
theorem lawC (T : TX K mg) (TO : TabOk K mg base) : LawC P w K mg base := by
  have cr := ok_row (P := P) (w := w) (base := base) T
  have cbs := ok_bsign (P := P) (w := w) (base := base) T
  have cbl := ok_bline (P := P) (w := w) (base := base) T
  have cso := ok_setone T cr
  have cst := ok_setother T cr cbl cbs
  have mm := mak_m T cr cst
  have cw := ok_word (P := P) (w := w) (base := base) T
  have cc := ok_codes T cw
  have cb := ok_begun (P := P) (w := w) (base := base) T
  have cg := ok_goes (P := P) (w := w) (base := base) T
  have cgr := ok_grown T cg
  have clm := ok_longest T cb cgr
  have cbk := ok_blocks T clm
  have cmc := ok_mcodes T cbk cc
  have cwh := ok_whole (P := P) (w := w) (base := base) T
  have cra := ok_ratio T cbk cwh
  have cto := ok_told (P := P) (w := w) (base := base) T
  have cpd := ok_paired T mm cmc
  have cpn := ok_partner T mm cso cra
  have crp := ok_replaced T cpn cpd cto
  have cpc := ok_pieces T mm cmc crp
  have csp := ok_spans (P := P) (w := w) (base := base) T
  have cal := ok_alone (P := P) (w := w) (base := base) T
  have cpa := ok_putalone T cal
  have cly := ok_lay (P := P) (w := w) (base := base) T
  have cpb := ok_putboth T cly csp
  have cpo := ok_pairsof T (mak_s T) cpa cpb cly
  have cfs := ok_freshside (P := P) (w := w) (base := base) T
  have cfr := ok_freshrow T cfs
  have csh := ok_short T cfr
  have cpr := cal_pairs T (mak_d T) cpc cpo csh
  have cic := ok_ischanged (P := P) (w := w) (base := base) T
  have cnx := ok_next T cic
  have cmx := ok_mixed (P := P) (w := w) (base := base) T
  have ct := ok_take T cmx
  have cpk := ok_pick T ct
  have ctx := ok_text T ct cpk
  have cln := ok_line T ct ctx
  have cnr := ok_near T ct cpk
  have cls := ok_lines T ct cpk cln cnr
  have cbt := ok_bent T ct cln cnr
  have c2 := ok_two T ct cls cbt
  have cdr := ok_draws (P := P) (w := w) (base := base) T
  have cbn := ok_blank (P := P) (w := w) (base := base) T
  exact ⟨cdr, ct, c2, ok_jlines T TO ct cpk cbn, ok_jsigns T TO ct, cpr, ok_sright T, ok_left T, cnx⟩
theorem tx_made {h : Heap} (X : K.In h) (G : h.Ns mainGlobals mg) (c : He.SaysD fas fns K) (ex : exK K = true) : TX K mg :=
  ⟨c, ex, fun i x e => He.glo_ok X G (c.fact i e), fun i x e => He.free_ok X G (c.fact i e), fun i x n e => He.int_ok X G (c.fact i e)⟩
theorem tabs_nil {H : Hp} (h : ∀ p ∈ tfs.map (He.cT K), H p.2 = some (.tbl #[])) : Tabs (tabs K) H := fun p hp => by
  rcases List.mem_cons.mp hp with e | hp
  · rw [e]
    exact TabS.nil (h _ (List.mem_cons_self ..))
  · rw [List.mem_singleton.mp hp]
    exact TabS.nil (h _ (List.mem_cons_of_mem _ (List.mem_cons_self ..)))
theorem facts {w : World} {h : Heap} {fa : Addr} (X : K.In h) (G : h.Ns mainGlobals mg) (hfa : mg ("law" : Str) = some (.ref fa)) (c : He.SaysX fas fns [] tfs exK w h K) :
    LamX.LawAtS PySem.Challenge.rw_twinseam_k47_whole_spans_tell_the_same w K C8.CX0 10 63 "_law_script" mg fa h := by
  have T : TX K mg := tx_made X G c.t.d c.more
  obtain ⟨fd, F⟩ := T.f_Law
  have mem : ∀ p ∈ tfs.map (He.cT K), ∃ t ∈ tfs, p = He.cT K t := fun p hp => by
    obtain ⟨t, h1, h2⟩ := List.mem_map.mp hp
    exact ⟨t, h1, h2.symm⟩
  have b := FunD.bindsA (ps := ["_law_script"]) F fun _ _ _ _ _ _ us hl => match us, hl with | [_], _ => rfl
  have ef : fa = He.ga K "law" := by
    have e := hfa.symm.trans (He.glo_ok X G (exK_law c.more))
    injection e with e
    injection e
  subst ef
  refine ⟨fd, tfs.map (He.cT K), spLaw K, fun p hp => ?_, fun p hp => ?_, fun p hp => ?_, fun s u => b s [u] rfl, fun H a ns hl _ hH hS => ⟨a, ns, rfl, hS, by omega, tabs_nil hH, fun _ => rfl⟩, fun base X2 G2 TB => ?_⟩
  · obtain ⟨t, h1, rfl⟩ := mem p hp
    exact c.empty t h1
  · obtain ⟨t, h1, rfl⟩ := mem p hp
    exact c.out t h1
  · obtain ⟨t, h1, rfl⟩ := mem p hp
    exact PySem.W.codeHd_of_K X (c.hd t h1)
  · have TO : TabOk K mg base := ⟨TB _ (List.mem_cons_self ..), TB _ (List.mem_cons_of_mem _ (List.mem_cons_self ..)), exK_ne c.more⟩
    exact ok_law T F (lawC T TO)
end
end TwK
open PySem PySem.W PySem.Calls PyProof.Rows
theorem PySem.Challenge.cw_twinseam_k47_whole_spans_tell_the_same_holds : PySem.Challenge.rw_twinseam_k47_whole_spans_tell_the_same.Holds := by
  w_on; o_law
  refine HandSHeadRun.head_any (r := OpenLaw.row PySem.Challenge.rw_twinseam_k47_whole_spans_tell_the_same) (q := view (OpenLaw.row PySem.Challenge.rw_twinseam_k47_whole_spans_tell_the_same).prog [49]) (H := TwK.hk) (ob := TwK.ob) (M := 6000) (loose := TwK.loose) (d := HandSHeadRun.topDef (OpenLaw.row PySem.Challenge.rw_twinseam_k47_whole_spans_tell_the_same).prog 49) (kwd := []) TwK.ob_eq
    (by kernel_rfl) (fun s => by kernel_rfl) TwK.run (by kernel_rfl) (by kernel_rfl) (by kernel_rfl) (by rfl) (by first | assumption | decide +kernel) (by decide +kernel) ⟨rfl, rfl, rfl, rfl, rfl, by decide +kernel⟩ ?hw ?hc
  case hw => w_witness2
  case hc =>
    refine LamX.walk_ofTsE (l := PySem.Challenge.rw_twinseam_k47_whole_spans_tell_the_same) (n := 63) (k := 10) (x := "_law_script") (CX := fun _ => C8.CX0) rfl (by decide) (by kernel_rfl) ⟨rfl, by decide, by decide⟩ ?F (fun _ _ _ _ _ z => z)
    intro w mg fa h Y G hmg0
    obtain ⟨K, KX, c⟩ := Y
    have hmg : mg ("law" : PySem.Str) = some (.ref fa) := by
      have e : (HandSHeadRun.topDef (OpenLaw.row PySem.Challenge.rw_twinseam_k47_whole_spans_tell_the_same).prog 49).name = ("law" : PySem.Str) := by kernel_rfl
      rw [← e]
      exact hmg0
    exact ⟨K, KX, TwK.facts KX G hmg c⟩

