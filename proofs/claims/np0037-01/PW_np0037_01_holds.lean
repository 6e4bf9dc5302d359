import PyProof.Rows.All
import Wide.All
import OpenK.AllK
import Wide.FinOn
import PySem.Challenge.RW_np0037_01
set_option Elab.async false
set_option linter.all false
open PySem PySem.W PyProof.Rows
namespace Mine
noncomputable section
local macro_rules | `(tactic| k_qdec) => `(tactic| decide +kernel)
local macro_rules
  | `(tactic| walk_at $s:str) =>
    if ("call builtin:len;compareOp In int ref;compareOp NotIn int ref;exec While BoolOp cons nil;exec While Compare cons nil;exec While Constant cons nil;call ref cons nil;call ref nil;call builtin:list.pop;subscriptTail;exec Assign cons ListComp;CompSrc;call builtin:str.join;binaryOp Pow int int;binaryOp Mod int int;subscriptTail Name Slice ref ref;eval ListComp;binaryOp Add ref ref;CompSrcT;call type:list;subscriptTail ListComp Name cons Slice ref ref;exec If BoolOp cons nil;JoinEnd;exec If Compare cons nil;PlacesEnd;call type:range;exec For Name Call cons nil;InvEndN;CompEnd;SrcS;pyIter ref".splitOn ";").contains s.getString then `(tactic| k_extra $(Lean.Syntax.mkStrLit ("* " ++ s.getString))) else Lean.Macro.throwUnsupported
local macro_rules | `(tactic| k_mem) => `(tactic| first | exact List.Mem.head _ | ktr_member | (refine' List.mem_cons_of_mem _ ?_; k_mem))
local macro_rules | `(tactic| k_all) => `(tactic| assumption)
section
open PySem PySem.W PyProof.Rows
section
noncomputable def top_quick (p : Program) (w : World) (N : Nat) (s : Shared) : {r : Option Shared // topFrom treeTable p w N s = r} := by
  apply Subtype.mk
  unfold topFrom
  first
    | rw [PySem.W.Fast.te14082659384304107361, PySem.W.Fast.te14364793385576792824]
    | exact rfl
theorem left_quick {p q : Program} {loose : List Str} {Xt : Shared → Bool} {α : Type} {Yf : Shared → α} {Ya : World → α} {N : Nat} {g0 : Bool}
    (e : opening p = plainProg p.main.scope.names) (hN : Nat.ble 600 N = true) (f : ∀ s, fenceModules? p s = some s)
    (h : ∀ (w : World) (os : OsState), (top_quick p w N ⟨boot_heap w.params, Array.mk [], boot_drawn, boot_toks, os⟩).1.map (fun s => (openSeen q loose (importedModules p.main.body) Xt g0 s, Yf s)) = some (openGood q loose, Ya w)) :
    LeftO p q loose Xt Yf Ya N g0 := fun w => by
  obtain ⟨⟨h', gs, d, k, os⟩, e1, e2⟩ := Option.map_eq_some_iff.mp (boot_open e hN f w)
  obtain ⟨rfl, rfl, rfl, rfl⟩ : h' = boot_heap w.params ∧ gs = Array.mk [] ∧ d = boot_drawn ∧ k = boot_toks := by simpa using e2
  unfold openEnds
  rw [e1]
  show (topFrom treeTable p w N _).map _ = _
  rw [(top_quick p w N _).2]
  exact h w os
local macro_rules
  | `(tactic| refine $f:ident $as*) => do
    unless f.getId.eraseMacroScopes == `PySem.W.holds_open || f.getId.eraseMacroScopes == `holds_open do Lean.Macro.throwUnsupported
    let isHl (a : Lean.Syntax) : Bool := a.isOfKind `Lean.Parser.Term.syntheticHole && a[1].getId.eraseMacroScopes == `hl
    unless as.any fun a => isHl a.raw do Lean.Macro.throwUnsupported
    let t ← `(term| (left_quick (by kernel_rfl) (by kernel_rfl) (fun _ => by kernel_rfl) (fun _ _ => by kernel_rfl)))
    let as' := as.map fun a => if isHl a.raw then ⟨t.raw⟩ else a
    `(tactic| refine $f:ident $as'*)
set_option maxRecDepth 100000 in
set_option maxHeartbeats 0 in
open_top hd for PySem.Challenge.rw_np0037_01
end
end
section
/-! the project's functions as plain functions on the row's signs (cs) and its first place (pl) -/
noncomputable def codeAt (cs : List Int) (pl i : Int) : Int := if pl ≤ i ∧ i < pl + cs.length then cs.getD (i - pl).toNat 0 else -1
noncomputable def lineStart (cs : List Int) (pl i : Int) : Int := if h : i > pl ∧ codeAt cs pl (i - 1) ≠ 10 then lineStart cs pl (i - 1) else i
termination_by (i - pl).toNat
decreasing_by omega
noncomputable def lineEnd (cs : List Int) (pl i : Int) : Int := if h : i < pl + cs.length ∧ codeAt cs pl i ≠ 10 then lineEnd cs pl (i + 1) else i
termination_by (pl + cs.length - i).toNat
decreasing_by omega
noncomputable def nextStart (cs : List Int) (pl i : Int) : Int := if lineEnd cs pl i < pl + cs.length then lineEnd cs pl i + 1 else -1
noncomputable def isLineEnd (cs : List Int) (pl i : Int) : Bool := decide (i = pl + cs.length) || decide (codeAt cs pl i = 10)
noncomputable def isParting (c : Int) : Bool := decide (c = 32) || decide (c = 9) || decide (c = 12)
noncomputable def isSpaces (c : Int) : Bool := decide (c = 32) || decide (c = 9) || decide (c = 10)
noncomputable def isStop (c : Int) : Bool := decide (c = 46) || decide (c = 63) || decide (c = 33)
noncomputable def isClosing (c : Int) : Bool := decide (c = 93) || decide (c = 34) || decide (c = 39) || decide (c = 41) || decide (c = 125)
noncomputable def skipParting (cs : List Int) (pl i : Int) : Int := if h : i < pl + cs.length ∧ isParting (codeAt cs pl i) = true then skipParting cs pl (i + 1) else i
termination_by (pl + cs.length - i).toNat
decreasing_by omega
noncomputable def parts (cs : List Int) (pl i : Int) : Bool := isLineEnd cs pl (skipParting cs pl i)
noncomputable def begins (cs : List Int) (pl i : Int) : Bool := decide (codeAt cs pl i = 12) || parts cs pl i
noncomputable def lineBehind (cs : List Int) (pl i : Int) : Int := if nextStart cs pl i < 0 then pl + cs.length else nextStart cs pl i
theorem lineStart_go {cs : List Int} {pl k : Int} (h1 : k > pl) (h2 : codeAt cs pl (k - 1) ≠ 10) : lineStart cs pl k = lineStart cs pl (k - 1) := by
  rw [lineStart, dif_pos ⟨h1, h2⟩]
theorem lineStart_stop {cs : List Int} {pl k : Int} (h : ¬ (k > pl ∧ codeAt cs pl (k - 1) ≠ 10)) : lineStart cs pl k = k := by
  rw [lineStart, dif_neg h]
theorem lineEnd_go {cs : List Int} {pl k : Int} (h1 : k < pl + cs.length) (h2 : codeAt cs pl k ≠ 10) : lineEnd cs pl k = lineEnd cs pl (k + 1) := by
  rw [lineEnd, dif_pos ⟨h1, h2⟩]
theorem lineEnd_stop {cs : List Int} {pl k : Int} (h : ¬ (k < pl + cs.length ∧ codeAt cs pl k ≠ 10)) : lineEnd cs pl k = k := by
  rw [lineEnd, dif_neg h]
theorem skipParting_go {cs : List Int} {pl k : Int} (h1 : k < pl + cs.length) (h2 : isParting (codeAt cs pl k) = true) : skipParting cs pl k = skipParting cs pl (k + 1) := by
  rw [skipParting, dif_pos ⟨h1, h2⟩]
theorem skipParting_stop {cs : List Int} {pl k : Int} (h : ¬ (k < pl + cs.length ∧ isParting (codeAt cs pl k) = true)) : skipParting cs pl k = k := by
  rw [skipParting, dif_neg h]
theorem lineStart_le (cs : List Int) (pl i : Int) : lineStart cs pl i ≤ i := by
  induction i using lineStart.induct cs pl with
  | case1 i h ih => rw [lineStart_go h.1 h.2]; omega
  | case2 i h => rw [lineStart_stop h]; omega
theorem lineStart_ge {cs : List Int} {pl i : Int} (h0 : pl ≤ i) : pl ≤ lineStart cs pl i := by
  induction i using lineStart.induct cs pl with
  | case1 i h ih => rw [lineStart_go h.1 h.2]; exact ih (by omega)
  | case2 i h => rw [lineStart_stop h]; omega
theorem lineEnd_ge (cs : List Int) (pl i : Int) : i ≤ lineEnd cs pl i := by
  induction i using lineEnd.induct cs pl with
  | case1 i h ih => rw [lineEnd_go h.1 h.2]; omega
  | case2 i h => rw [lineEnd_stop h]; omega
theorem lineEnd_le {cs : List Int} {pl i : Int} (h0 : i ≤ pl + cs.length) : lineEnd cs pl i ≤ pl + cs.length := by
  induction i using lineEnd.induct cs pl with
  | case1 i h ih => rw [lineEnd_go h.1 h.2]; exact ih (by omega)
  | case2 i h => rw [lineEnd_stop h]; omega
theorem lineBehind_gt {cs : List Int} {pl i : Int} (h : i < pl + cs.length) : i < lineBehind cs pl i := by
  have h1 := lineEnd_ge cs pl i
  unfold lineBehind nextStart
  (repeat' split) <;> omega
theorem lineBehind_le {cs : List Int} {pl i : Int} (h : i ≤ pl + cs.length) : lineBehind cs pl i ≤ pl + cs.length := by
  unfold lineBehind nextStart
  (repeat' split) <;> omega
noncomputable def pastLoop (cs : List Int) (pl i : Int) : Int := if h : i < pl + cs.length ∧ parts cs pl i = true then pastLoop cs pl (lineBehind cs pl i) else i
termination_by (pl + cs.length - i).toNat
decreasing_by (have := lineBehind_gt (cs := cs) h.1; omega)
theorem pastLoop_go {cs : List Int} {pl k : Int} (h1 : k < pl + cs.length) (h2 : parts cs pl k = true) : pastLoop cs pl k = pastLoop cs pl (lineBehind cs pl k) := by
  rw [pastLoop, dif_pos ⟨h1, h2⟩]
theorem pastLoop_stop {cs : List Int} {pl k : Int} (h : ¬ (k < pl + cs.length ∧ parts cs pl k = true)) : pastLoop cs pl k = k := by
  rw [pastLoop, dif_neg h]
noncomputable def pastParting (cs : List Int) (pl i : Int) : Int := pastLoop cs pl (lineStart cs pl i)
noncomputable def fwdLoop (cs : List Int) (pl i : Int) : Int := if h : i < pl + cs.length ∧ begins cs pl i = false then fwdLoop cs pl (lineBehind cs pl i) else i
termination_by (pl + cs.length - i).toNat
decreasing_by (have := lineBehind_gt (cs := cs) h.1; omega)
theorem fwdLoop_go {cs : List Int} {pl k : Int} (h1 : k < pl + cs.length) (h2 : begins cs pl k = false) : fwdLoop cs pl k = fwdLoop cs pl (lineBehind cs pl k) := by
  rw [fwdLoop, dif_pos ⟨h1, h2⟩]
theorem fwdLoop_stop {cs : List Int} {pl k : Int} (h : ¬ (k < pl + cs.length ∧ begins cs pl k = false)) : fwdLoop cs pl k = k := by
  rw [fwdLoop, dif_neg h]
noncomputable def oneForward (cs : List Int) (pl i : Int) : Int := fwdLoop cs pl (lineBehind cs pl (pastParting cs pl i))
noncomputable def isBehindEmpty (cs : List Int) (pl i : Int) : Bool :=
  if i - 1 < pl ∨ codeAt cs pl (i - 1) ≠ 10 ∨ parts cs pl i = true then false else decide (lineStart cs pl (i - 1) = i - 1)
noncomputable def firstLine (cs : List Int) (pl i : Int) : Int := if h : i > pl ∧ begins cs pl i = false then firstLine cs pl (lineStart cs pl (i - 1)) else i
termination_by (i - pl).toNat
decreasing_by (have := lineStart_le cs pl (i - 1); omega)
theorem firstLine_go {cs : List Int} {pl k : Int} (h1 : k > pl) (h2 : begins cs pl k = false) : firstLine cs pl k = firstLine cs pl (lineStart cs pl (k - 1)) := by
  rw [firstLine, dif_pos ⟨h1, h2⟩]
theorem firstLine_stop {cs : List Int} {pl k : Int} (h : ¬ (k > pl ∧ begins cs pl k = false)) : firstLine cs pl k = k := by
  rw [firstLine, dif_neg h]
noncomputable def backParts (cs : List Int) (pl i : Int) : Int := if h : i > pl ∧ parts cs pl i = true then backParts cs pl (lineStart cs pl (i - 1)) else i
termination_by (i - pl).toNat
decreasing_by (have := lineStart_le cs pl (i - 1); omega)
theorem backParts_go {cs : List Int} {pl k : Int} (h1 : k > pl) (h2 : parts cs pl k = true) : backParts cs pl k = backParts cs pl (lineStart cs pl (k - 1)) := by
  rw [backParts, dif_pos ⟨h1, h2⟩]
theorem backParts_stop {cs : List Int} {pl k : Int} (h : ¬ (k > pl ∧ parts cs pl k = true)) : backParts cs pl k = k := by
  rw [backParts, dif_neg h]
noncomputable def oneBackward (cs : List Int) (pl i : Int) : Int :=
  if i = pl ∨ isBehindEmpty cs pl i = true then max pl (i - 1)
  else if backParts cs pl (lineStart cs pl (i - 1)) = pl then pl
  else if begins cs pl (firstLine cs pl (backParts cs pl (lineStart cs pl (i - 1)))) = false then firstLine cs pl (backParts cs pl (lineStart cs pl (i - 1)))
  else if pastParting cs pl (firstLine cs pl (backParts cs pl (lineStart cs pl (i - 1)))) > pl ∧
      lineStart cs pl (pastParting cs pl (firstLine cs pl (backParts cs pl (lineStart cs pl (i - 1)))) - 1) = pastParting cs pl (firstLine cs pl (backParts cs pl (lineStart cs pl (i - 1)))) - 1 then
    pastParting cs pl (firstLine cs pl (backParts cs pl (lineStart cs pl (i - 1)))) - 1
  else pastParting cs pl (firstLine cs pl (backParts cs pl (lineStart cs pl (i - 1))))
theorem ob_empty {cs : List Int} {pl i : Int} (h : i = pl ∨ isBehindEmpty cs pl i = true) : (if i - 1 > pl then i - 1 else pl) = oneBackward cs pl i := by
  unfold oneBackward; rw [if_pos h]; split <;> omega
theorem ob_begin {cs : List Int} {pl i k : Int} (h1 : i ≠ pl) (h2 : isBehindEmpty cs pl i = false) (hb : backParts cs pl (lineStart cs pl (i - 1)) = k) (hk : k = pl) : k = oneBackward cs pl i := by
  unfold oneBackward; rw [if_neg (by simp [h1, h2]), hb, if_pos hk, hk]
theorem ob_nf {cs : List Int} {pl i k : Int} (h1 : i ≠ pl) (h2 : isBehindEmpty cs pl i = false) (hb : backParts cs pl (lineStart cs pl (i - 1)) = k) (hk : k ≠ pl) (hf : begins cs pl (firstLine cs pl k) = false) : firstLine cs pl k = oneBackward cs pl i := by
  unfold oneBackward; rw [if_neg (by simp [h1, h2]), hb, if_neg hk, if_pos hf]
theorem ob_last {cs : List Int} {pl i k : Int} (h1 : i ≠ pl) (h2 : isBehindEmpty cs pl i = false) (hb : backParts cs pl (lineStart cs pl (i - 1)) = k) (hk : k ≠ pl) (hf : begins cs pl (firstLine cs pl k) = true)
    (h : pl < pastParting cs pl (firstLine cs pl k)) (h' : lineStart cs pl (pastParting cs pl (firstLine cs pl k) - 1) = pastParting cs pl (firstLine cs pl k) - 1) : pastParting cs pl (firstLine cs pl k) - 1 = oneBackward cs pl i := by
  unfold oneBackward; rw [if_neg (by simp [h1, h2]), hb, if_neg hk, if_neg (by simp [hf]), if_pos ⟨h, h'⟩]
theorem ob_else {cs : List Int} {pl i k : Int} (h1 : i ≠ pl) (h2 : isBehindEmpty cs pl i = false) (hb : backParts cs pl (lineStart cs pl (i - 1)) = k) (hk : k ≠ pl) (hf : begins cs pl (firstLine cs pl k) = true)
    (h : ¬ (pl < pastParting cs pl (firstLine cs pl k) ∧ lineStart cs pl (pastParting cs pl (firstLine cs pl k) - 1) = pastParting cs pl (firstLine cs pl k) - 1)) : pastParting cs pl (firstLine cs pl k) = oneBackward cs pl i := by
  unfold oneBackward; rw [if_neg (by simp [h1, h2]), hb, if_neg hk, if_neg (by simp [hf]), if_neg h]
noncomputable def aheadOf (cs : List Int) (pl f : Int) : Int := if f > pl ∧ codeAt cs pl (f - 1) = 10 then f - 1 else f
noncomputable def textEnd (cs : List Int) (pl p i : Int) : Int :=
  if aheadOf cs pl (oneForward cs pl i) > p ∨ oneForward cs pl i = pl + cs.length then max (aheadOf cs pl (oneForward cs pl i)) p
  else if h : i < oneForward cs pl i ∧ i < pl + cs.length then textEnd cs pl p (oneForward cs pl i) else 0
termination_by (pl + cs.length - i).toNat
decreasing_by omega
noncomputable def skipSpaces (cs : List Int) (pl i : Int) : Int := if h : i < pl + cs.length ∧ isSpaces (codeAt cs pl i) = true then skipSpaces cs pl (i + 1) else i
termination_by (pl + cs.length - i).toNat
decreasing_by omega
theorem skipSpaces_go {cs : List Int} {pl k : Int} (h1 : k < pl + cs.length) (h2 : isSpaces (codeAt cs pl k) = true) : skipSpaces cs pl k = skipSpaces cs pl (k + 1) := by
  rw [skipSpaces, dif_pos ⟨h1, h2⟩]
theorem skipSpaces_stop {cs : List Int} {pl k : Int} (h : ¬ (k < pl + cs.length ∧ isSpaces (codeAt cs pl k) = true)) : skipSpaces cs pl k = k := by
  rw [skipSpaces, dif_neg h]
noncomputable def textBegin (cs : List Int) (pl p i : Int) : Int :=
  if skipSpaces cs pl (oneBackward cs pl i) < p then skipSpaces cs pl (oneBackward cs pl i)
  else if oneBackward cs pl i = pl then oneBackward cs pl i
  else if h : oneBackward cs pl i < i ∧ pl < i then textBegin cs pl p (oneBackward cs pl i) else 0
termination_by (i - pl).toNat
decreasing_by omega
noncomputable def skipClosing (cs : List Int) (pl i : Int) : Int := if h : i < pl + cs.length ∧ isClosing (codeAt cs pl i) = true then skipClosing cs pl (i + 1) else i
termination_by (pl + cs.length - i).toNat
decreasing_by omega
theorem codeAt_out {cs : List Int} {pl i : Int} (h : ¬ (pl ≤ i ∧ i < pl + cs.length)) : codeAt cs pl i = -1 := by unfold codeAt; rw [if_neg h]
theorem skipClosing_go {cs : List Int} {pl k : Int} (h2 : isClosing (codeAt cs pl k) = true) : skipClosing cs pl k = skipClosing cs pl (k + 1) := by
  have h1 : k < pl + cs.length := by
    by_cases h : pl ≤ k ∧ k < pl + cs.length
    · exact h.2
    · rw [codeAt_out h] at h2; simp [isClosing] at h2
  rw [skipClosing, dif_pos ⟨h1, h2⟩]
theorem skipClosing_stop {cs : List Int} {pl k : Int} (h : isClosing (codeAt cs pl k) = false) : skipClosing cs pl k = k := by
  rw [skipClosing, dif_neg (by simp [h])]
noncomputable def closedAt (cs : List Int) (pl i : Int) : Int := if isStop (codeAt cs pl i) = true then skipClosing cs pl (i + 1) else -1
noncomputable def gapBehind (cs : List Int) (pl i : Int) : Int :=
  if isLineEnd cs pl i = true then i
  else if codeAt cs pl i = 9 then i + 1
  else if codeAt cs pl i ≠ 32 then -1
  else if isLineEnd cs pl (i + 1) = true then i + 1
  else if codeAt cs pl (i + 1) = 32 then i + 2 else -1
noncomputable def gapOf (cs : List Int) (pl i : Int) : Int := if closedAt cs pl i < 0 then -1 else gapBehind cs pl (closedAt cs pl i)
noncomputable def spacesTo (cs : List Int) (pl i lim : Int) : Int := if h : i < lim ∧ isSpaces (codeAt cs pl i) = true then spacesTo cs pl (i + 1) lim else i
termination_by (lim - i).toNat
decreasing_by omega
theorem spacesTo_go {cs : List Int} {pl k lim : Int} (h1 : k < lim) (h2 : isSpaces (codeAt cs pl k) = true) : spacesTo cs pl k lim = spacesTo cs pl (k + 1) lim := by
  rw [spacesTo, dif_pos ⟨h1, h2⟩]
theorem spacesTo_stop {cs : List Int} {pl k lim : Int} (h : ¬ (k < lim ∧ isSpaces (codeAt cs pl k) = true)) : spacesTo cs pl k lim = k := by
  rw [spacesTo, dif_neg h]
noncomputable def endMatch (cs : List Int) (pl i lim : Int) : Int := if gapOf cs pl i < 0 ∨ gapOf cs pl i > lim then -1 else spacesTo cs pl (gapOf cs pl i) lim
noncomputable def spacesBegin (cs : List Int) (pl i first : Int) : Int := if h : i > first ∧ isSpaces (codeAt cs pl (i - 1)) = true then spacesBegin cs pl (i - 1) first else i
termination_by (i - first).toNat
decreasing_by omega
theorem spacesBegin_go {cs : List Int} {pl k f : Int} (h1 : k > f) (h2 : isSpaces (codeAt cs pl (k - 1)) = true) : spacesBegin cs pl k f = spacesBegin cs pl (k - 1) f := by
  rw [spacesBegin, dif_pos ⟨h1, h2⟩]
theorem spacesBegin_stop {cs : List Int} {pl k f : Int} (h : ¬ (k > f ∧ isSpaces (codeAt cs pl (k - 1)) = true)) : spacesBegin cs pl k f = k := by
  rw [spacesBegin, dif_neg h]
theorem closing_lt {cs : List Int} {pl k : Int} (h : isClosing (codeAt cs pl k) = true) : k < pl + cs.length := by
  by_cases h1 : pl ≤ k ∧ k < pl + cs.length
  · exact h1.2
  · rw [codeAt_out h1] at h; simp [isClosing] at h
theorem pastLoop_ge (cs : List Int) (pl i : Int) : i ≤ pastLoop cs pl i := by
  induction i using pastLoop.induct cs pl with
  | case1 i h ih => rw [pastLoop_go h.1 h.2]; have := lineBehind_gt (cs := cs) h.1; omega
  | case2 i h => rw [pastLoop_stop h]; omega
theorem pastLoop_le {cs : List Int} {pl i : Int} (h0 : i ≤ pl + cs.length) : pastLoop cs pl i ≤ pl + cs.length := by
  induction i using pastLoop.induct cs pl with
  | case1 i h ih => rw [pastLoop_go h.1 h.2]; exact ih (lineBehind_le (by omega))
  | case2 i h => rw [pastLoop_stop h]; omega
theorem fwdLoop_ge (cs : List Int) (pl i : Int) : i ≤ fwdLoop cs pl i := by
  induction i using fwdLoop.induct cs pl with
  | case1 i h ih => rw [fwdLoop_go h.1 h.2]; have := lineBehind_gt (cs := cs) h.1; omega
  | case2 i h => rw [fwdLoop_stop h]; omega
theorem fwdLoop_le {cs : List Int} {pl i : Int} (h0 : i ≤ pl + cs.length) : fwdLoop cs pl i ≤ pl + cs.length := by
  induction i using fwdLoop.induct cs pl with
  | case1 i h ih => rw [fwdLoop_go h.1 h.2]; exact ih (lineBehind_le (by omega))
  | case2 i h => rw [fwdLoop_stop h]; omega
/-- the line of i is behind its start: the end of that line is not before i -/
theorem lineEnd_start {cs : List Int} {pl i : Int} (h1 : i ≤ pl + cs.length) : i ≤ lineEnd cs pl (lineStart cs pl i) := by
  induction i using lineStart.induct cs pl with
  | case1 i h ih =>
    rw [lineStart_go h.1 h.2]
    have h3 := ih (by omega)
    have h4 : lineEnd cs pl (lineStart cs pl (i - 1)) ≠ i - 1 := by
      intro e
      have h5 : ∀ j, lineEnd cs pl j = i - 1 → j ≤ i - 1 → False := by
        intro j
        induction j using lineEnd.induct cs pl with
        | case1 j hj ihj => intro e1 hle; rw [lineEnd_go hj.1 hj.2] at e1; have := lineEnd_ge cs pl (j + 1); exact ihj e1 (by omega)
        | case2 j hj => intro e1 hle; rw [lineEnd_stop hj] at e1; subst e1; exact hj ⟨by omega, h.2⟩
      exact h5 _ e (lineStart_le cs pl (i - 1))
    omega
  | case2 i h => rw [lineStart_stop h]; exact lineEnd_ge cs pl i
theorem oneForward_le {cs : List Int} {pl i : Int} (h1 : i ≤ pl + cs.length) : oneForward cs pl i ≤ pl + cs.length := by
  unfold oneForward pastParting
  have h2 := lineStart_le cs pl i
  exact fwdLoop_le (lineBehind_le (pastLoop_le (by omega)))
theorem oneForward_gt {cs : List Int} {pl i : Int} (h0 : pl ≤ i) (h1 : i < pl + cs.length) : i < oneForward cs pl i := by
  unfold oneForward pastParting
  refine Int.lt_of_lt_of_le ?_ (fwdLoop_ge cs pl _)
  have h2 := lineEnd_start (cs := cs) (pl := pl) (i := i) (by omega)
  have h3 := lineStart_le cs pl i
  have h6 := lineStart_ge (cs := cs) h0
  have h4 := pastLoop_ge cs pl (lineStart cs pl i)
  have h8 := pastLoop_le (cs := cs) (pl := pl) (i := lineStart cs pl i) (by omega)
  have h5 : lineEnd cs pl (lineStart cs pl i) ≤ lineEnd cs pl (pastLoop cs pl (lineStart cs pl i)) := by
    have mono : ∀ a b, a ≤ b → b ≤ pl + cs.length → lineEnd cs pl a ≤ lineEnd cs pl b := by
      intro a
      induction a using lineEnd.induct cs pl with
      | case1 a h ih =>
        intro b hab hb
        rcases Int.lt_or_eq_of_le hab with hlt | rfl
        · rw [lineEnd_go h.1 h.2]; exact ih b (by omega) hb
        · exact Int.le_refl _
      | case2 a h => intro b hab hb; rw [lineEnd_stop h]; have := lineEnd_ge cs pl b; omega
    exact mono _ _ h4 h8
  have h7 : lineEnd cs pl (pastLoop cs pl (lineStart cs pl i)) ≤ pl + cs.length := lineEnd_le h8
  unfold lineBehind nextStart
  (repeat' split) <;> omega
theorem textEnd_stop {cs : List Int} {pl p i : Int} (h : aheadOf cs pl (oneForward cs pl i) > p ∨ oneForward cs pl i = pl + cs.length) : textEnd cs pl p i = max (aheadOf cs pl (oneForward cs pl i)) p := by
  rw [textEnd, if_pos h]
theorem textEnd_go {cs : List Int} {pl p i : Int} (h0 : pl ≤ i) (h1 : i ≤ pl + cs.length) (h : ¬ (aheadOf cs pl (oneForward cs pl i) > p ∨ oneForward cs pl i = pl + cs.length)) :
    textEnd cs pl p i = textEnd cs pl p (oneForward cs pl i) ∧ pl ≤ oneForward cs pl i ∧ oneForward cs pl i ≤ pl + cs.length ∧ i < oneForward cs pl i := by
  have h2 := oneForward_le (cs := cs) (pl := pl) (i := i) h1
  have h3 : i < pl + cs.length := by
    rcases Int.lt_or_eq_of_le h1 with h4 | h4
    · exact h4
    · exfalso
      apply h
      right
      have h5 : ∀ j, j ≤ pl + cs.length → i ≤ lineEnd cs pl j → lineBehind cs pl j = pl + cs.length := by
        intro j hj hl
        unfold lineBehind nextStart
        (repeat' split) <;> omega
      have h6 := lineEnd_start (cs := cs) (pl := pl) (i := i) h1
      have h7 := lineStart_le cs pl i
      unfold oneForward pastParting
      have h9 : ∀ j, j ≤ pl + cs.length → i ≤ lineEnd cs pl j → i ≤ lineEnd cs pl (pastLoop cs pl j) ∧ pastLoop cs pl j ≤ pl + cs.length := by
        intro j
        induction j using pastLoop.induct cs pl with
        | case1 j hj ih =>
          intro hle hl
          rw [pastLoop_go hj.1 hj.2]
          refine ih (lineBehind_le hle) ?_
          rw [h5 j hle hl]
          have := lineEnd_ge cs pl (pl + cs.length)
          omega
        | case2 j hj => intro hle hl; rw [pastLoop_stop hj]; exact ⟨hl, hle⟩
      have h10 := h9 _ (by omega) h6
      rw [h5 _ h10.2 h10.1]
      rw [fwdLoop_stop (by omega)]
  have h4 := oneForward_gt h0 h3
  refine ⟨?_, by omega, h2, h4⟩
  rw [textEnd, if_neg h, dif_pos ⟨h4, h3⟩]
theorem backParts_le (cs : List Int) (pl i : Int) : backParts cs pl i ≤ i := by
  induction i using backParts.induct cs pl with
  | case1 i h ih => rw [backParts_go h.1 h.2]; have := lineStart_le cs pl (i - 1); omega
  | case2 i h => rw [backParts_stop h]; omega
theorem backParts_ge {cs : List Int} {pl i : Int} (h0 : pl ≤ i) : pl ≤ backParts cs pl i := by
  induction i using backParts.induct cs pl with
  | case1 i h ih => rw [backParts_go h.1 h.2]; exact ih (lineStart_ge (by omega))
  | case2 i h => rw [backParts_stop h]; omega
theorem firstLine_le (cs : List Int) (pl i : Int) : firstLine cs pl i ≤ i := by
  induction i using firstLine.induct cs pl with
  | case1 i h ih => rw [firstLine_go h.1 h.2]; have := lineStart_le cs pl (i - 1); omega
  | case2 i h => rw [firstLine_stop h]; omega
theorem firstLine_ge {cs : List Int} {pl i : Int} (h0 : pl ≤ i) : pl ≤ firstLine cs pl i := by
  induction i using firstLine.induct cs pl with
  | case1 i h ih => rw [firstLine_go h.1 h.2]; exact ih (lineStart_ge (by omega))
  | case2 i h => rw [firstLine_stop h]; omega
theorem lineStart_is (cs : List Int) (pl i : Int) : lineStart cs pl i ≤ pl ∨ codeAt cs pl (lineStart cs pl i - 1) = 10 := by
  induction i using lineStart.induct cs pl with
  | case1 i h ih => rw [lineStart_go h.1 h.2]; exact ih
  | case2 i h => rw [lineStart_stop h]; by_cases h1 : i > pl <;> simp only [h1, true_and, Decidable.not_not] at h <;> omega
theorem backParts_is {cs : List Int} {pl i : Int} (h0 : i ≤ pl ∨ codeAt cs pl (i - 1) = 10) : backParts cs pl i ≤ pl ∨ codeAt cs pl (backParts cs pl i - 1) = 10 := by
  induction i using backParts.induct cs pl with
  | case1 i h ih => rw [backParts_go h.1 h.2]; exact ih (lineStart_is cs pl (i - 1))
  | case2 i h => rw [backParts_stop h]; exact h0
theorem backParts_not {cs : List Int} {pl i : Int} : ¬ (backParts cs pl i > pl ∧ parts cs pl (backParts cs pl i) = true) := by
  induction i using backParts.induct cs pl with
  | case1 i h ih => rw [backParts_go h.1 h.2]; exact ih
  | case2 i h => rw [backParts_stop h]; exact h
theorem lineEnd_at {cs : List Int} {pl j k : Int} (hk : codeAt cs pl k = 10) (h : j ≤ k) : lineEnd cs pl j ≤ k := by
  induction j using lineEnd.induct cs pl with
  | case1 j hj ih =>
    rw [lineEnd_go hj.1 hj.2]
    rcases Int.lt_or_eq_of_le h with h1 | h1
    · exact ih (by omega)
    · subst h1; exact absurd hk hj.2
  | case2 j hj => rw [lineEnd_stop hj]; exact h
theorem codeAt_in {cs : List Int} {pl i : Int} (h : codeAt cs pl i ≠ -1) : pl ≤ i ∧ i < pl + cs.length := by
  by_cases h1 : pl ≤ i ∧ i < pl + cs.length
  · exact h1
  · exact absurd (codeAt_out h1) h
theorem lineBehind_at {cs : List Int} {pl j k : Int} (h0 : 0 ≤ pl) (hj : pl ≤ j) (hk : codeAt cs pl (k - 1) = 10) (h : j < k) : lineBehind cs pl j ≤ k := by
  have h1 := lineEnd_at (j := j) hk (by omega)
  have h2 := codeAt_in (cs := cs) (pl := pl) (i := k - 1) (by omega)
  have h3 := lineEnd_ge cs pl j
  unfold lineBehind nextStart
  (repeat' split) <;> omega
theorem lineBehind_ge' {cs : List Int} {pl j : Int} (hj : j ≤ pl + cs.length) : j ≤ lineBehind cs pl j := by
  have h3 := lineEnd_ge cs pl j
  unfold lineBehind nextStart
  (repeat' split) <;> omega
theorem pastLoop_at {cs : List Int} {pl j k : Int} (h0 : 0 ≤ pl) (hp : parts cs pl k = false) (hk : k ≤ pl ∨ codeAt cs pl (k - 1) = 10) (hj : pl ≤ j) (h : j ≤ k) : pastLoop cs pl j ≤ k := by
  induction j using pastLoop.induct cs pl with
  | case1 j hc ih =>
    rw [pastLoop_go hc.1 hc.2]
    rcases Int.lt_or_eq_of_le h with h1 | h1
    · rcases hk with h2 | h2
      · omega
      · exact ih (Int.le_trans hj (lineBehind_ge' (by omega))) (lineBehind_at h0 hj h2 h1)
    · subst h1; rw [hp] at hc; exact absurd hc.2 (by simp)
  | case2 j hc => rw [pastLoop_stop hc]; exact h
theorem oneBackward_lt {cs : List Int} {pl i : Int} (h0 : 0 ≤ pl) (h1 : pl < i) : pl ≤ oneBackward cs pl i ∧ oneBackward cs pl i < i := by
  have a1 := lineStart_le cs pl (i - 1)
  have a2 := lineStart_ge (cs := cs) (pl := pl) (i := i - 1) (by omega)
  have a3 := backParts_le cs pl (lineStart cs pl (i - 1))
  have a4 := backParts_ge (cs := cs) a2
  have a5 := firstLine_le cs pl (backParts cs pl (lineStart cs pl (i - 1)))
  have a6 := firstLine_ge (cs := cs) a4
  have b1 := backParts_is (lineStart_is cs pl (i - 1))
  have b2 := backParts_not (cs := cs) (pl := pl) (i := lineStart cs pl (i - 1))
  unfold oneBackward
  generalize backParts cs pl (lineStart cs pl (i - 1)) = k at *
  by_cases c1 : i = pl ∨ isBehindEmpty cs pl i = true
  · rw [if_pos c1]; omega
  rw [if_neg c1]
  by_cases c2 : k = pl
  · rw [if_pos c2]; omega
  rw [if_neg c2]
  have hp : parts cs pl k = false := by
    cases h : parts cs pl k with
    | false => rfl
    | true => exact absurd ⟨by omega, h⟩ b2
  by_cases c3 : begins cs pl (firstLine cs pl k) = false
  · rw [if_pos c3]; omega
  rw [if_neg c3]
  have a7 := lineStart_le cs pl (firstLine cs pl k)
  have a8 := lineStart_ge (cs := cs) a6
  have p1 : pastParting cs pl (firstLine cs pl k) ≤ k := pastLoop_at h0 hp b1 a8 (by omega)
  have p2 : pl ≤ pastParting cs pl (firstLine cs pl k) := Int.le_trans a8 (pastLoop_ge cs pl _)
  by_cases c4 : pastParting cs pl (firstLine cs pl k) > pl ∧ lineStart cs pl (pastParting cs pl (firstLine cs pl k) - 1) = pastParting cs pl (firstLine cs pl k) - 1
  · rw [if_pos c4]; omega
  · rw [if_neg c4]; omega
theorem textBegin_skip {cs : List Int} {pl p i : Int} (h : skipSpaces cs pl (oneBackward cs pl i) < p) : textBegin cs pl p i = skipSpaces cs pl (oneBackward cs pl i) := by
  rw [textBegin, if_pos h]
theorem textBegin_top {cs : List Int} {pl p i : Int} (h : ¬ skipSpaces cs pl (oneBackward cs pl i) < p) (h' : oneBackward cs pl i = pl) : textBegin cs pl p i = oneBackward cs pl i := by
  rw [textBegin, if_neg h, if_pos h']
theorem oneBackward_pl {cs : List Int} {pl : Int} : oneBackward cs pl pl = pl := by
  unfold oneBackward; rw [if_pos (.inl rfl)]; omega
theorem textBegin_go {cs : List Int} {pl p i : Int} (h0 : 0 ≤ pl) (h1 : pl ≤ i) (h : ¬ skipSpaces cs pl (oneBackward cs pl i) < p) (h' : oneBackward cs pl i ≠ pl) :
    textBegin cs pl p i = textBegin cs pl p (oneBackward cs pl i) ∧ pl ≤ oneBackward cs pl i ∧ oneBackward cs pl i < i := by
  have h2 : pl < i := by
    rcases Int.lt_or_eq_of_le h1 with h2 | h2
    · exact h2
    · subst h2; exact absurd oneBackward_pl h'
  have h3 := oneBackward_lt (cs := cs) h0 h2
  refine ⟨?_, h3⟩
  rw [textBegin, if_neg h, if_neg h', dif_pos ⟨h3.2, h2⟩]
theorem closedAt_none {cs : List Int} {pl i : Int} (h : isStop (codeAt cs pl i) = false) : -1 = closedAt cs pl i := by
  unfold closedAt; rw [if_neg (by simp [h])]
theorem closedAt_some {cs : List Int} {pl i k : Int} (h : isStop (codeAt cs pl i) = true) (hi : skipClosing cs pl k = skipClosing cs pl (i + 1)) (hk : isClosing (codeAt cs pl k) = false) : k = closedAt cs pl i := by
  unfold closedAt; rw [if_pos h, ← hi, skipClosing_stop hk]
theorem gapOf_eq {cs : List Int} {pl i : Int} (h : ¬ closedAt cs pl i < 0) : gapOf cs pl i = gapBehind cs pl (closedAt cs pl i) := by
  unfold gapOf; rw [if_neg h]
theorem endMatch_none1 {cs : List Int} {pl i lim : Int} (h : closedAt cs pl i < 0) : -1 = endMatch cs pl i lim := by
  unfold endMatch gapOf; rw [if_pos h]; rfl
theorem endMatch_none2 {cs : List Int} {pl i lim : Int} (h : ¬ closedAt cs pl i < 0) (h2 : gapBehind cs pl (closedAt cs pl i) < 0 ∨ lim < gapBehind cs pl (closedAt cs pl i)) : -1 = endMatch cs pl i lim := by
  unfold endMatch; rw [gapOf_eq h, if_pos h2]
theorem endMatch_some {cs : List Int} {pl i lim k : Int} (h : ¬ closedAt cs pl i < 0) (h2 : ¬ gapBehind cs pl (closedAt cs pl i) < 0) (h3 : ¬ lim < gapBehind cs pl (closedAt cs pl i))
    (hi : spacesTo cs pl k lim = spacesTo cs pl (gapOf cs pl i) lim) (hk : ¬ (k < lim ∧ isSpaces (codeAt cs pl k) = true)) : k = endMatch cs pl i lim := by
  unfold endMatch; rw [← hi, spacesTo_stop hk, gapOf_eq h, if_neg (by omega)]
theorem te_out {cs : List Int} {pl p i k a : Int} (hi : textEnd cs pl p k = textEnd cs pl p i) (h : aheadOf cs pl (oneForward cs pl k) > p ∨ oneForward cs pl k = pl + cs.length) (ha : aheadOf cs pl (oneForward cs pl k) = a) : (if p > a then p else a) = textEnd cs pl p i := by
  rw [← hi, textEnd_stop h, ha]; split <;> omega
theorem ahead_yes {cs : List Int} {pl f : Int} (h1 : pl < f) (h2 : codeAt cs pl (f - 1) = 10) : aheadOf cs pl f = f - 1 := by unfold aheadOf; rw [if_pos ⟨h1, h2⟩]
theorem ahead_no {cs : List Int} {pl f : Int} (h : ¬ (pl < f ∧ codeAt cs pl (f - 1) = 10)) : aheadOf cs pl f = f := by unfold aheadOf; rw [if_neg h]
theorem te_o1 {cs : List Int} {pl p i k : Int} (hi : textEnd cs pl p k = textEnd cs pl p i) (a1 : pl < oneForward cs pl k) (a2 : codeAt cs pl (oneForward cs pl k - 1) = 10) (a3 : p < oneForward cs pl k - 1 ∨ oneForward cs pl k = pl + cs.length) :
    (if p > oneForward cs pl k - 1 then p else oneForward cs pl k - 1) = textEnd cs pl p i := by
  have e := ahead_yes a1 a2
  exact te_out hi (by rw [e]; exact a3) e
theorem te_o2 {cs : List Int} {pl p i k : Int} (hi : textEnd cs pl p k = textEnd cs pl p i) (a : ¬ (pl < oneForward cs pl k ∧ codeAt cs pl (oneForward cs pl k - 1) = 10)) (a3 : p < oneForward cs pl k ∨ oneForward cs pl k = pl + cs.length) :
    (if p > oneForward cs pl k then p else oneForward cs pl k) = textEnd cs pl p i := by
  have e := ahead_no a
  exact te_out hi (by rw [e]; exact a3) e
theorem te_n {cs : List Int} {pl p i k a : Int} (hi : textEnd cs pl p k = textEnd cs pl p i) (h0 : pl ≤ k) (h1 : k ≤ pl + cs.length) (ha : aheadOf cs pl (oneForward cs pl k) = a) (h2 : ¬ p < a) (h3 : oneForward cs pl k ≠ pl + cs.length) :
    (pl ≤ oneForward cs pl k ∧ oneForward cs pl k ≤ pl + cs.length ∧ textEnd cs pl p (oneForward cs pl k) = textEnd cs pl p i) ∧ k < oneForward cs pl k := by
  have h := textEnd_go (p := p) h0 h1 (by rw [ha]; omega)
  exact ⟨⟨h.2.1, h.2.2.1, h.1.symm.trans hi⟩, h.2.2.2⟩
theorem te_n1 {cs : List Int} {pl p i k : Int} (hi : textEnd cs pl p k = textEnd cs pl p i) (h0 : pl ≤ k) (h1 : k ≤ pl + cs.length) (a1 : pl < oneForward cs pl k) (a2 : codeAt cs pl (oneForward cs pl k - 1) = 10) (h2 : ¬ p < oneForward cs pl k - 1) (h3 : oneForward cs pl k ≠ pl + cs.length) :
    (pl ≤ oneForward cs pl k ∧ oneForward cs pl k ≤ pl + cs.length ∧ textEnd cs pl p (oneForward cs pl k) = textEnd cs pl p i) ∧ k < oneForward cs pl k := te_n hi h0 h1 (ahead_yes a1 a2) h2 h3
theorem te_n2 {cs : List Int} {pl p i k : Int} (hi : textEnd cs pl p k = textEnd cs pl p i) (h0 : pl ≤ k) (h1 : k ≤ pl + cs.length) (a : ¬ (pl < oneForward cs pl k ∧ codeAt cs pl (oneForward cs pl k - 1) = 10)) (h2 : ¬ p < oneForward cs pl k) (h3 : oneForward cs pl k ≠ pl + cs.length) :
    (pl ≤ oneForward cs pl k ∧ oneForward cs pl k ≤ pl + cs.length ∧ textEnd cs pl p (oneForward cs pl k) = textEnd cs pl p i) ∧ k < oneForward cs pl k := te_n hi h0 h1 (ahead_no a) h2 h3
theorem tb_o1 {cs : List Int} {pl p i k b : Int} (hi : textBegin cs pl p k = textBegin cs pl p i) (hb : skipSpaces cs pl b = skipSpaces cs pl (oneBackward cs pl k)) (hs : ¬ (b < pl + cs.length ∧ isSpaces (codeAt cs pl b) = true)) (h : b < p) : b = textBegin cs pl p i := by
  rw [skipSpaces_stop hs] at hb
  rw [← hi, textBegin_skip (by omega)]; exact hb
theorem tb_o2 {cs : List Int} {pl p i k b : Int} (hi : textBegin cs pl p k = textBegin cs pl p i) (hb : skipSpaces cs pl b = skipSpaces cs pl (oneBackward cs pl k)) (hs : ¬ (b < pl + cs.length ∧ isSpaces (codeAt cs pl b) = true)) (h : ¬ b < p) (h' : oneBackward cs pl k = pl) : oneBackward cs pl k = textBegin cs pl p i := by
  rw [skipSpaces_stop hs] at hb
  rw [← hi, textBegin_top (by omega) h']
theorem tb_n {cs : List Int} {pl p i k b : Int} (hi : textBegin cs pl p k = textBegin cs pl p i) (h0 : 0 ≤ pl) (h1 : pl ≤ k) (hb : skipSpaces cs pl b = skipSpaces cs pl (oneBackward cs pl k)) (hs : ¬ (b < pl + cs.length ∧ isSpaces (codeAt cs pl b) = true)) (h : ¬ b < p) (h' : oneBackward cs pl k ≠ pl) :
    (pl ≤ oneBackward cs pl k ∧ textBegin cs pl p (oneBackward cs pl k) = textBegin cs pl p i) ∧ oneBackward cs pl k < k := by
  rw [skipSpaces_stop hs] at hb
  have h2 := textBegin_go (p := p) h0 h1 (by omega) h'
  exact ⟨⟨h2.2.1, h2.1.symm.trans hi⟩, h2.2.2⟩
/-- forward: the first match from i on -/
noncomputable def fwdScan (cs : List Int) (pl lim i : Int) : Int :=
  if h : i < lim then (if endMatch cs pl i lim ≥ 0 then spacesBegin cs pl (endMatch cs pl i lim) (i + 1) else fwdScan cs pl lim (i + 1)) else lim
termination_by (lim - i).toNat
decreasing_by omega
noncomputable def oneFwd (cs : List Int) (pl p : Int) : Int := fwdScan cs pl (textEnd cs pl p p) p
/-- backward: the first match from i down -/
noncomputable def bwdScan (cs : List Int) (pl p first i : Int) : Int :=
  if h : i ≥ first then (if 0 ≤ endMatch cs pl i p ∧ endMatch cs pl i p < p ∧ isSpaces (codeAt cs pl (endMatch cs pl i p)) = false then endMatch cs pl i p else bwdScan cs pl p first (i - 1)) else first
termination_by (i - first + 1).toNat
decreasing_by omega
noncomputable def oneBwd (cs : List Int) (pl p : Int) : Int := bwdScan cs pl p (textBegin cs pl p p) (p - 1)
noncomputable def iter (f : Int → Int) : Nat → Int → Int
  | 0, i => i
  | n + 1, i => iter f n (f i)
noncomputable def target (cs : List Int) (pl p many : Int) : Int := if many > 0 then iter (oneFwd cs pl) many.natAbs p else iter (oneBwd cs pl) many.natAbs p
end
section
theorem skipSpaces_le {cs : List Int} {pl i : Int} (h0 : i ≤ pl + cs.length) : skipSpaces cs pl i ≤ pl + cs.length := by
  induction i using skipSpaces.induct cs pl with
  | case1 i h ih => rw [skipSpaces_go h.1 h.2]; exact ih (by omega)
  | case2 i h => rw [skipSpaces_stop h]; omega
theorem skipSpaces_ge (cs : List Int) (pl i : Int) : i ≤ skipSpaces cs pl i := by
  induction i using skipSpaces.induct cs pl with
  | case1 i h ih => rw [skipSpaces_go h.1 h.2]; omega
  | case2 i h => rw [skipSpaces_stop h]; omega
theorem textEnd_bd {cs : List Int} {pl p i : Int} (h0 : pl ≤ i) (h1 : i ≤ pl + cs.length) (h2 : p ≤ pl + cs.length) : p ≤ textEnd cs pl p i ∧ textEnd cs pl p i ≤ pl + cs.length := by
  generalize hn : (pl + cs.length - i).toNat = n
  induction n using Nat.strongRecOn generalizing i with
  | ind n ih =>
    by_cases h : aheadOf cs pl (oneForward cs pl i) > p ∨ oneForward cs pl i = pl + cs.length
    · rw [textEnd_stop h]
      have h3 := oneForward_le (cs := cs) (pl := pl) (i := i) h1
      have h4 : aheadOf cs pl (oneForward cs pl i) ≤ oneForward cs pl i := by unfold aheadOf; split <;> omega
      omega
    · have h3 := textEnd_go (p := p) h0 h1 h
      rw [h3.1]
      exact ih _ (by omega) h3.2.1 h3.2.2.1 rfl
theorem textBegin_bd {cs : List Int} {pl p i : Int} (h0 : 0 ≤ pl) (h1 : pl ≤ i) (hi : i ≤ p) : pl ≤ textBegin cs pl p i ∧ textBegin cs pl p i ≤ p := by
  generalize hn : (i - pl).toNat = n
  induction n using Nat.strongRecOn generalizing i with
  | ind n ih =>
    have h4 : pl ≤ oneBackward cs pl i := by
      rcases Int.lt_or_eq_of_le h1 with h5 | h5
      · exact (oneBackward_lt h0 h5).1
      · subst h5; rw [oneBackward_pl]; omega
    by_cases h : skipSpaces cs pl (oneBackward cs pl i) < p
    · rw [textBegin_skip h]
      have := skipSpaces_ge cs pl (oneBackward cs pl i)
      omega
    · by_cases h' : oneBackward cs pl i = pl
      · rw [textBegin_top h h']; omega
      · have h3 := textBegin_go h0 h1 h h'
        rw [h3.1]
        exact ih _ (by omega) h3.2.1 (by omega) rfl
theorem skipClosing_ge (cs : List Int) (pl i : Int) : i ≤ skipClosing cs pl i := by
  induction i using skipClosing.induct cs pl with
  | case1 i h ih => rw [skipClosing_go h.2]; omega
  | case2 i h => rw [skipClosing, dif_neg h]; omega
theorem closedAt_gt {cs : List Int} {pl i : Int} (h : ¬ closedAt cs pl i < 0) : i < closedAt cs pl i := by
  unfold closedAt at *
  split
  · have := skipClosing_ge cs pl (i + 1); omega
  · rename_i h1; rw [if_neg h1] at h; omega
theorem gapBehind_ge {cs : List Int} {pl i : Int} (h : ¬ gapBehind cs pl i < 0) : i ≤ gapBehind cs pl i := by
  unfold gapBehind at *
  (repeat' split) <;> first | omega | (rename_i h1 h2 h3 h4 h5; simp [h1, h2, h3, h4, h5] at h) | (rename_i h1 h2 h3; simp [h1, h2, h3] at h)
theorem gapOf_gt {cs : List Int} {pl i : Int} (h : ¬ gapOf cs pl i < 0) : i < gapOf cs pl i := by
  by_cases h1 : closedAt cs pl i < 0
  · unfold gapOf at h; rw [if_pos h1] at h; omega
  · rw [gapOf_eq h1] at *
    have := closedAt_gt h1
    have := gapBehind_ge h
    omega
theorem spacesTo_ge (cs : List Int) (pl i lim : Int) : i ≤ spacesTo cs pl i lim := by
  induction i using spacesTo.induct cs pl lim with
  | case1 i h ih => rw [spacesTo_go h.1 h.2]; omega
  | case2 i h => rw [spacesTo_stop h]; omega
theorem spacesTo_le {cs : List Int} {pl i lim : Int} (h0 : i ≤ lim) : spacesTo cs pl i lim ≤ lim := by
  induction i using spacesTo.induct cs pl lim with
  | case1 i h ih => rw [spacesTo_go h.1 h.2]; exact ih (by omega)
  | case2 i h => rw [spacesTo_stop h]; omega
theorem endMatch_bd {cs : List Int} {pl i lim : Int} (h : 0 ≤ endMatch cs pl i lim) : i < endMatch cs pl i lim ∧ endMatch cs pl i lim ≤ lim := by
  unfold endMatch at *
  by_cases h1 : gapOf cs pl i < 0 ∨ gapOf cs pl i > lim
  · rw [if_pos h1] at h; omega
  · rw [if_neg h1]
    have h2 := gapOf_gt (cs := cs) (pl := pl) (i := i) (by omega)
    have h3 := spacesTo_ge cs pl (gapOf cs pl i) lim
    have h4 := spacesTo_le (cs := cs) (pl := pl) (i := gapOf cs pl i) (lim := lim) (by omega)
    omega
theorem spacesBegin_le (cs : List Int) (pl i f : Int) : spacesBegin cs pl i f ≤ i := by
  induction i using spacesBegin.induct cs pl f with
  | case1 i h ih => rw [spacesBegin_go h.1 h.2]; omega
  | case2 i h => rw [spacesBegin_stop h]; omega
theorem spacesBegin_ge {cs : List Int} {pl i f : Int} (h0 : f ≤ i) : f ≤ spacesBegin cs pl i f := by
  induction i using spacesBegin.induct cs pl f with
  | case1 i h ih => rw [spacesBegin_go h.1 h.2]; exact ih (by omega)
  | case2 i h => rw [spacesBegin_stop h]; omega
theorem fwdScan_hit {cs : List Int} {pl lim i : Int} (h : i < lim) (h1 : 0 ≤ endMatch cs pl i lim) : fwdScan cs pl lim i = spacesBegin cs pl (endMatch cs pl i lim) (i + 1) := by
  rw [fwdScan, dif_pos h, if_pos h1]
theorem fwdScan_go {cs : List Int} {pl lim i : Int} (h : i < lim) (h1 : ¬ 0 ≤ endMatch cs pl i lim) : fwdScan cs pl lim i = fwdScan cs pl lim (i + 1) := by
  rw [fwdScan, dif_pos h, if_neg h1]
theorem fwdScan_end {cs : List Int} {pl lim i : Int} (h : ¬ i < lim) : fwdScan cs pl lim i = lim := by
  rw [fwdScan, dif_neg h]
theorem bwdScan_hit {cs : List Int} {pl p f i : Int} (h : f ≤ i) (h1 : 0 ≤ endMatch cs pl i p ∧ endMatch cs pl i p < p ∧ isSpaces (codeAt cs pl (endMatch cs pl i p)) = false) : bwdScan cs pl p f i = endMatch cs pl i p := by
  rw [bwdScan, dif_pos h, if_pos h1]
theorem bwdScan_go {cs : List Int} {pl p f i : Int} (h : f ≤ i) (h1 : ¬ (0 ≤ endMatch cs pl i p ∧ endMatch cs pl i p < p ∧ isSpaces (codeAt cs pl (endMatch cs pl i p)) = false)) : bwdScan cs pl p f i = bwdScan cs pl p f (i - 1) := by
  rw [bwdScan, dif_pos h, if_neg h1]
theorem bwdScan_end {cs : List Int} {pl p f i : Int} (h : ¬ f ≤ i) : bwdScan cs pl p f i = f := by
  rw [bwdScan, dif_neg h]
theorem fwdScan_bd {cs : List Int} {pl lim i : Int} (h0 : i ≤ lim) : i ≤ fwdScan cs pl lim i ∧ fwdScan cs pl lim i ≤ lim := by
  induction i using fwdScan.induct cs pl lim with
  | case1 i h h1 =>
    rw [fwdScan_hit h h1]
    have h2 := endMatch_bd h1
    have h3 := spacesBegin_le cs pl (endMatch cs pl i lim) (i + 1)
    have h4 := spacesBegin_ge (cs := cs) (pl := pl) (i := endMatch cs pl i lim) (f := i + 1) (by omega)
    omega
  | case2 i h h1 ih => rw [fwdScan_go h h1]; have := ih (by omega); omega
  | case3 i h => rw [fwdScan_end h]; omega
theorem bwdScan_bd {cs : List Int} {pl p f i : Int} (hf : f ≤ p) (h0 : i < p) : f ≤ bwdScan cs pl p f i ∧ bwdScan cs pl p f i ≤ p := by
  induction i using bwdScan.induct cs pl p f with
  | case1 i h h1 =>
    rw [bwdScan_hit h h1]
    have h2 := endMatch_bd h1.1
    omega
  | case2 i h h1 ih => rw [bwdScan_go h h1]; exact ih (by omega)
  | case3 i h => rw [bwdScan_end h]; omega
theorem oneFwd_bd {cs : List Int} {pl p : Int} (h0 : pl ≤ p) (h1 : p ≤ pl + cs.length) : pl ≤ oneFwd cs pl p ∧ oneFwd cs pl p ≤ pl + cs.length := by
  have h2 := textEnd_bd (p := p) h0 h1 h1
  have h3 := fwdScan_bd (cs := cs) (pl := pl) h2.1
  unfold oneFwd; omega
theorem oneBwd_bd {cs : List Int} {pl p : Int} (h : 0 ≤ pl) (h0 : pl ≤ p) (h1 : p ≤ pl + cs.length) : pl ≤ oneBwd cs pl p ∧ oneBwd cs pl p ≤ pl + cs.length := by
  have h2 := textBegin_bd (cs := cs) (p := p) h h0 (Int.le_refl _)
  have h3 := bwdScan_bd (cs := cs) (pl := pl) (i := p - 1) h2.2 (by omega)
  unfold oneBwd; omega
/-- the scans as the loops have them -/
theorem fw_start {cs : List Int} {pl p : Int} : fwdScan cs pl (textEnd cs pl p p) (p + (([] : List Int).length : Int)) = oneFwd cs pl p := by
  unfold oneFwd; simp
theorem fw_turn {cs : List Int} {pl p lim k : Int} {pre : List Int} (hl : fwdScan cs pl lim (p + (pre.length : Int)) = oneFwd cs pl p) (hk : k = p + (pre.length : Int)) (h : k < lim) (h1 : endMatch cs pl k lim < 0) : fwdScan cs pl lim (p + ((pre ++ [k]).length : Int)) = oneFwd cs pl p := by
  rw [← hl, ← hk, fwdScan_go h (by omega)]
  congr 1
  simp; omega
theorem fw_hit {cs : List Int} {pl p lim k : Int} {pre : List Int} (hl : fwdScan cs pl lim (p + (pre.length : Int)) = oneFwd cs pl p) (hk : k = p + (pre.length : Int)) (h : k < lim) (h1 : ¬ endMatch cs pl k lim < 0) : spacesBegin cs pl (endMatch cs pl k lim) (k + 1) = oneFwd cs pl p := by
  rw [← hl, ← hk, fwdScan_hit h (by omega)]
theorem fw_end {cs : List Int} {pl p lim : Int} {pre : List Int} (hl : fwdScan cs pl lim (p + (pre.length : Int)) = oneFwd cs pl p) (h : lim ≤ p + (pre.length : Int)) : lim = oneFwd cs pl p := by
  rw [← hl, fwdScan_end (by omega)]
theorem bw_start {cs : List Int} {pl p : Int} : bwdScan cs pl p (textBegin cs pl p p) (p - 1 - (([] : List Int).length : Int)) = oneBwd cs pl p := by
  unfold oneBwd; simp
theorem bw_turn {cs : List Int} {pl p f k : Int} {pre : List Int} (hl : bwdScan cs pl p f (p - 1 - (pre.length : Int)) = oneBwd cs pl p) (hk : k = p - 1 - (pre.length : Int)) (h : f ≤ k)
    (h1 : ¬ (0 ≤ endMatch cs pl k p ∧ endMatch cs pl k p < p ∧ isSpaces (codeAt cs pl (endMatch cs pl k p)) = false)) : bwdScan cs pl p f (p - 1 - ((pre ++ [k]).length : Int)) = oneBwd cs pl p := by
  rw [← hl, ← hk, bwdScan_go h h1]
  congr 1
  simp; omega
theorem bw_hit {cs : List Int} {pl p f k : Int} {pre : List Int} (hl : bwdScan cs pl p f (p - 1 - (pre.length : Int)) = oneBwd cs pl p) (hk : k = p - 1 - (pre.length : Int)) (h : f ≤ k)
    (h1 : 0 ≤ endMatch cs pl k p) (h2 : endMatch cs pl k p < p) (h3 : isSpaces (codeAt cs pl (endMatch cs pl k p)) = false) : endMatch cs pl k p = oneBwd cs pl p := by
  rw [← hl, ← hk, bwdScan_hit h ⟨h1, h2, h3⟩]
theorem bw_end {cs : List Int} {pl p f : Int} {pre : List Int} (hl : bwdScan cs pl p f (p - 1 - (pre.length : Int)) = oneBwd cs pl p) (h : p - 1 - (pre.length : Int) < f) : f = oneBwd cs pl p := by
  rw [← hl, bwdScan_end (by omega)]
theorem iter_succ (f : Int → Int) (n : Nat) (i : Int) : iter f (n + 1) i = f (iter f n i) := by
  induction n generalizing i with
  | zero => rfl
  | succ n ih => show iter f (n + 1) (f i) = _; rw [ih]; rfl
theorem iter_bd {f : Int → Int} {a b : Int} (hf : ∀ i, a ≤ i → i ≤ b → a ≤ f i ∧ f i ≤ b) : ∀ (n : Nat) (i : Int), a ≤ i → i ≤ b → a ≤ iter f n i ∧ iter f n i ≤ b
  | 0, _, h, h' => ⟨h, h'⟩
  | n + 1, i, h, h' => iter_bd hf n (f i) (hf i h h').1 (hf i h h').2
noncomputable def stepOf (cs : List Int) (pl many : Int) : Int → Int := if many > 0 then oneFwd cs pl else oneBwd cs pl
theorem tg_fwd {cs : List Int} {pl i many p k : Int} {pre : List Int} (h0 : 0 ≤ pl) (hp : p = iter (stepOf cs pl many) pre.length i) (h1 : pl ≤ p) (h2 : p ≤ pl + cs.length) (hm : 0 < many) :
    oneFwd cs pl p = iter (stepOf cs pl many) (pre ++ [k]).length i ∧ pl ≤ oneFwd cs pl p ∧ oneFwd cs pl p ≤ pl + cs.length := by
  refine ⟨?_, oneFwd_bd h1 h2⟩
  rw [List.length_append, List.length_singleton, iter_succ, ← hp, stepOf, if_pos hm]
theorem tg_bwd {cs : List Int} {pl i many p k : Int} {pre : List Int} (h0 : 0 ≤ pl) (hp : p = iter (stepOf cs pl many) pre.length i) (h1 : pl ≤ p) (h2 : p ≤ pl + cs.length) (hm : ¬ 0 < many) :
    oneBwd cs pl p = iter (stepOf cs pl many) (pre ++ [k]).length i ∧ pl ≤ oneBwd cs pl p ∧ oneBwd cs pl p ≤ pl + cs.length := by
  refine ⟨?_, oneBwd_bd h0 h1 h2⟩
  rw [List.length_append, List.length_singleton, iter_succ, ← hp, stepOf, if_neg hm]
theorem tg_end {cs : List Int} {pl i many p : Int} {n : Nat} (hp : p = iter (stepOf cs pl many) n i) (hn : n = many.natAbs := by omega) : p = target cs pl i many := by
  subst hn
  unfold target stepOf at *
  split <;> simp_all
end
section
/-! paragraphs by their signs: where text_end and text_begin lead -/
/-- a sign that is no blank, no newline, no form feed -/
noncomputable def Nb (cs : List Int) (pl x : Int) : Prop := codeAt cs pl x ≠ 32 ∧ codeAt cs pl x ≠ 9 ∧ codeAt cs pl x ≠ 12 ∧ codeAt cs pl x ≠ 10 ∧ codeAt cs pl x ≠ -1
section
variable {cs : List Int} {pl : Int}
theorem Nb.inn {x : Int} (h : Nb cs pl x) : pl ≤ x ∧ x < pl + cs.length := codeAt_in h.2.2.2.2
theorem isParting_false {c : Int} (h1 : c ≠ 32) (h2 : c ≠ 9) (h3 : c ≠ 12) : isParting c = false := by simp [isParting, h1, h2, h3]
theorem isSpaces_false {c : Int} (h1 : c ≠ 32) (h2 : c ≠ 9) (h3 : c ≠ 10) : isSpaces c = false := by simp [isSpaces, h1, h2, h3]
theorem Nb.parts {x : Int} (h : Nb cs pl x) : parts cs pl x = false := by
  have hi := h.inn
  unfold Mine.parts
  rw [skipParting_stop (by rw [isParting_false h.1 h.2.1 h.2.2.1]; simp)]
  unfold isLineEnd
  rw [decide_eq_false (by omega), decide_eq_false h.2.2.2.1]
  rfl
theorem Nb.begins {x : Int} (h : Nb cs pl x) : begins cs pl x = false := by
  unfold Mine.begins
  rw [h.parts, decide_eq_false h.2.2.1]
  rfl
theorem Nb.space {x : Int} (h : Nb cs pl x) : isSpaces (codeAt cs pl x) = false := isSpaces_false h.1 h.2.1 h.2.2.2.1
theorem begins_of_parts {x : Int} (h : parts cs pl x = true) : begins cs pl x = true := by unfold begins; rw [h]; simp
/-- a line's beginning -/
noncomputable def Bol (cs : List Int) (pl x : Int) : Prop := x = pl ∨ codeAt cs pl (x - 1) = 10
theorem lineStart_bol {x : Int} (h0 : pl ≤ x) : Bol cs pl (lineStart cs pl x) := by
  rcases lineStart_is cs pl x with h | h
  · left; have := lineStart_ge (cs := cs) h0; omega
  · exact .inr h
theorem lineStart_over {x y : Int} (hy : Bol cs pl y) (h : y ≤ x) : y ≤ lineStart cs pl x := by
  induction x using lineStart.induct cs pl with
  | case1 x hx ih =>
    rw [lineStart_go hx.1 hx.2]
    rcases Int.lt_or_eq_of_le h with h1 | h1
    · exact ih (by omega)
    · subst h1
      rcases hy with rfl | hy
      · omega
      · exact absurd hy hx.2
  | case2 x hx => rw [lineStart_stop hx]; exact h
theorem lineStart_self {x : Int} (h : Bol cs pl x) : lineStart cs pl x = x := by
  refine lineStart_stop ?_
  rcases h with rfl | h
  · omega
  · exact fun q => q.2 h
theorem lineEnd_is {x : Int} (h : x ≤ pl + cs.length) : lineEnd cs pl x = pl + cs.length ∨ codeAt cs pl (lineEnd cs pl x) = 10 := by
  induction x using lineEnd.induct cs pl with
  | case1 x hx ih => rw [lineEnd_go hx.1 hx.2]; exact ih (by omega)
  | case2 x hx => rw [lineEnd_stop hx]; by_cases h1 : x < pl + cs.length <;> simp only [h1, true_and, Decidable.not_not] at hx <;> omega
/-- the line's end ahead of a newline, and the line behind -/
theorem line_to {x y : Int} (h0 : 0 ≤ pl) (hx : pl ≤ x) (hy : codeAt cs pl y = 10) (h : x ≤ y) : x ≤ lineEnd cs pl x ∧ lineEnd cs pl x ≤ y ∧ codeAt cs pl (lineEnd cs pl x) = 10 ∧ lineBehind cs pl x = lineEnd cs pl x + 1 := by
  have hi := codeAt_in (cs := cs) (pl := pl) (i := y) (by omega)
  have h1 := lineEnd_ge cs pl x
  have h2 := lineEnd_at hy h
  have h3 := lineEnd_is (cs := cs) (pl := pl) (x := x) (by omega)
  refine ⟨h1, h2, by omega, ?_⟩
  unfold lineBehind nextStart
  rw [if_pos (show lineEnd cs pl x < pl + cs.length by omega), if_neg (by omega)]
/-- blank lines from b on, up to c -/
structure Blk (cs : List Int) (pl b c : Int) : Prop where
  p0 : 0 ≤ pl
  lo : pl ≤ b
  bc : b + 2 ≤ c
  hi : c ≤ pl + cs.length
  nl : codeAt cs pl b = 10
  all : ∀ i, b ≤ i → i < c → codeAt cs pl i = 10 ∨ codeAt cs pl i = 32
  fin : codeAt cs pl (c - 1) = 10
theorem Blk.parts {b c x : Int} (B : Blk cs pl b c) (h1 : b ≤ x) (h2 : x < c) : Mine.parts cs pl x = true := by
  have hB := B
  unfold Mine.parts
  obtain ⟨n, hn⟩ : ∃ n : Nat, c - x = n := ⟨(c - x).toNat, by omega⟩
  induction n generalizing x with
  | zero => omega
  | succ n ih =>
    have hhi := B.hi
    have hlo := B.lo
    rcases B.all x h1 h2 with h | h
    · rw [skipParting_stop (by rw [h]; simp [isParting])]
      unfold isLineEnd; rw [h]; simp
    · have : x ≠ c - 1 := by rintro rfl; rw [B.fin] at h; omega
      rw [skipParting_go (by omega) (by rw [h]; decide)]
      exact ih (by omega) (by omega) (by omega)
theorem Blk.past {b c x : Int} (B : Blk cs pl b c) (hc : Mine.parts cs pl c = false) (h1 : b ≤ x) (h2 : x ≤ c) : pastLoop cs pl x = c := by
  obtain ⟨n, hn⟩ : ∃ n : Nat, (c - x).toNat = n := ⟨_, rfl⟩
  have hhi := B.hi
  have hlo := B.lo
  have hp0 := B.p0
  induction n using Nat.strongRecOn generalizing x with
  | ind n ih =>
    rcases Int.lt_or_eq_of_le h2 with h3 | h3
    · rw [pastLoop_go (by omega) (B.parts h1 h3)]
      obtain ⟨a1, a2, a3, a4⟩ := line_to (y := c - 1) hp0 (by omega) B.fin (x := x) (by omega)
      rw [a4]
      exact ih _ (by omega) (by omega) (by omega) rfl
    · subst h3; rw [pastLoop_stop (by rw [hc]; simp)]
theorem Blk.skip {b c x : Int} (B : Blk cs pl b c) (hc : isSpaces (codeAt cs pl c) = false) (h1 : b ≤ x) (h2 : x ≤ c) : skipSpaces cs pl x = c := by
  obtain ⟨n, hn⟩ : ∃ n : Nat, (c - x).toNat = n := ⟨_, rfl⟩
  have hhi := B.hi
  induction n using Nat.strongRecOn generalizing x with
  | ind n ih =>
    rcases Int.lt_or_eq_of_le h2 with h3 | h3
    · rw [skipSpaces_go (by omega) (by rcases B.all x h1 h3 with h | h <;> rw [h] <;> decide)]
      exact ih _ (by omega) (by omega) (by omega) rfl
    · subst h3; rw [skipSpaces_stop (by rw [hc]; simp)]
/-- a paragraph from a to its last newline b -/
structure Par (cs : List Int) (pl a b : Int) : Prop where
  p0 : 0 ≤ pl
  lo : pl ≤ a
  ab : a < b
  nb : Nb cs pl a
  bol : Bol cs pl a
  nl : codeAt cs pl b = 10
  line : ∀ i, a ≤ i → i < b → codeAt cs pl i = 10 → Nb cs pl (i + 1) ∧ i + 1 < b
theorem Par.hi {a b : Int} (P : Par cs pl a b) : b < pl + cs.length := (codeAt_in (by rw [P.nl]; omega)).2
theorem Par.ls {a b x : Int} (P : Par cs pl a b) (h1 : a ≤ x) (h2 : x ≤ b) : a ≤ lineStart cs pl x ∧ lineStart cs pl x ≤ x ∧ Nb cs pl (lineStart cs pl x) ∧ Bol cs pl (lineStart cs pl x) := by
  have a1 := lineStart_over (cs := cs) P.bol h1
  have a2 := lineStart_le cs pl x
  have hlo := P.lo
  have a3 := lineStart_bol (cs := cs) (pl := pl) (x := x) (by omega)
  refine ⟨a1, a2, ?_, a3⟩
  by_cases h : lineStart cs pl x = a
  · rw [h]; exact P.nb
  · rcases a3 with h3 | h3
    · omega
    · have := (P.line (lineStart cs pl x - 1) (by omega) (by omega) h3).1
      rwa [Int.sub_add_cancel] at this
theorem Par.fwd {a b x : Int} (P : Par cs pl a b) (hb : parts cs pl (b + 1) = true) (h1 : a ≤ x) (h2 : x ≤ b) : fwdLoop cs pl (lineBehind cs pl x) = b + 1 := by
  obtain ⟨n, hn⟩ : ∃ n : Nat, (b - x).toNat = n := ⟨_, rfl⟩
  have hhi := P.hi
  have hlo := P.lo
  induction n using Nat.strongRecOn generalizing x with
  | ind n ih =>
    obtain ⟨a1, a2, a3, a4⟩ := line_to (y := b) P.p0 (by omega) P.nl h2
    rw [a4]
    by_cases h : lineEnd cs pl x = b
    · rw [h, fwdLoop_stop (by rw [begins_of_parts hb]; simp)]
    · have q := P.line (lineEnd cs pl x) (by omega) (by omega) a3
      rw [fwdLoop_go (by omega) q.1.begins]
      exact ih _ (by omega) (by omega) (by omega) rfl
theorem Par.one {a b p : Int} (P : Par cs pl a b) (hb : parts cs pl (b + 1) = true) (h1 : a ≤ p) (h2 : p ≤ b) : oneForward cs pl p = b + 1 := by
  obtain ⟨a1, a2, a3, a4⟩ := P.ls h1 h2
  unfold oneForward pastParting
  rw [pastLoop_stop (by rw [a3.parts]; simp)]
  exact P.fwd hb a1 (by omega)
theorem Par.ahead {a b : Int} (P : Par cs pl a b) : aheadOf cs pl (b + 1) = b := by
  have := P.lo
  have := P.ab
  rw [ahead_yes (by omega) (by rw [Int.add_sub_cancel]; exact P.nl)]
  omega
theorem Par.blk_one {b0 a b q : Int} (P : Par cs pl a b) (B : Blk cs pl b0 a) (hb : parts cs pl (b + 1) = true) (h1 : b0 < q) (h2 : q < a) : oneForward cs pl q = b + 1 := by
  have hlo := B.lo
  have b1 := lineStart_over (cs := cs) (pl := pl) (y := b0 + 1) (x := q) (.inr (by rw [Int.add_sub_cancel]; exact B.nl)) (by omega)
  have b2 := lineStart_le cs pl q
  unfold oneForward pastParting
  rw [B.past P.nb.parts (by omega) (by omega)]
  have := P.ab
  exact P.fwd hb (Int.le_refl _) (by omega)
/-- text_end from within -/
theorem Par.te {a b p : Int} (P : Par cs pl a b) (hb : parts cs pl (b + 1) = true) (h1 : a ≤ p) (h2 : p < b) : textEnd cs pl p p = b := by
  have e := P.one hb h1 (by omega)
  rw [textEnd_stop (by rw [e, P.ahead]; omega), e, P.ahead]
  omega
theorem Par.te_blk {b0 a b p q : Int} (P : Par cs pl a b) (B : Blk cs pl b0 a) (hb : parts cs pl (b + 1) = true) (h1 : b0 < q) (h2 : q < a) (h3 : p < b) : textEnd cs pl p q = b := by
  have e := P.blk_one B hb h1 h2
  rw [textEnd_stop (by rw [e, P.ahead]; omega), e, P.ahead]
  omega
/-- text_end from the end of the paragraph before, or from between -/
theorem Par.te_prev {a0 b0 a b p : Int} (P : Par cs pl a b) (P0 : Par cs pl a0 b0) (B : Blk cs pl b0 a) (hb : parts cs pl (b + 1) = true) (h1 : b0 ≤ p) (h2 : p < a) : textEnd cs pl p p = b := by
  have hab := P.ab
  have hbc := B.bc
  have hlo := B.lo
  have hhi := P.hi
  rcases Int.lt_or_eq_of_le h1 with h3 | h3
  · exact P.te_blk B hb h3 h2 (by omega)
  · subst h3
    have hb0 : b0 + 1 < pl + cs.length := by omega
    have e := P0.one (B.parts (by omega) (by omega)) (Int.le_of_lt P0.ab) (Int.le_refl b0)
    have := (textEnd_go (cs := cs) (p := b0) (i := b0) hlo (by omega) (by rw [e, P0.ahead]; omega)).1
    rw [this, e]
    exact P.te_blk B hb (by omega) (by omega) (by omega)
end
end
section
section
variable {cs : List Int} {pl : Int}
noncomputable def Prev (cs : List Int) (pl a : Int) : Prop := a = pl ∨ ∃ b0, Blk cs pl b0 a
/-- what is left of one_backward once the blank lines are behind -/
noncomputable def backRest (cs : List Int) (pl k : Int) : Int :=
  if k = pl then pl
  else if begins cs pl (firstLine cs pl k) = false then firstLine cs pl k
  else if pastParting cs pl (firstLine cs pl k) > pl ∧ lineStart cs pl (pastParting cs pl (firstLine cs pl k) - 1) = pastParting cs pl (firstLine cs pl k) - 1 then pastParting cs pl (firstLine cs pl k) - 1
  else pastParting cs pl (firstLine cs pl k)
theorem ob_eq {i : Int} (h : ¬ (i = pl ∨ isBehindEmpty cs pl i = true)) : oneBackward cs pl i = backRest cs pl (backParts cs pl (lineStart cs pl (i - 1))) := by
  unfold oneBackward backRest; rw [if_neg h]
theorem Par.first {a b x : Int} (P : Par cs pl a b) (V : Prev cs pl a) (h1 : a ≤ x) (h2 : x ≤ b) (hn : Nb cs pl x) :
    (a = pl ∧ firstLine cs pl x = a) ∨ (pl < a ∧ firstLine cs pl x = lineStart cs pl (a - 1) ∧ parts cs pl (lineStart cs pl (a - 1)) = true ∧ pastParting cs pl (lineStart cs pl (a - 1)) = a) := by
  obtain ⟨n, hn'⟩ : ∃ n : Nat, (x - a).toNat = n := ⟨_, rfl⟩
  have hlo := P.lo
  induction n using Nat.strongRecOn generalizing x with
  | ind n ih =>
    by_cases hx : x = a
    · subst hx
      rcases V with rfl | ⟨b0, B⟩
      · exact .inl ⟨rfl, firstLine_stop (by omega)⟩
      · have hbc := B.bc
        have hbl := B.lo
        have z1 := lineStart_over (cs := cs) (pl := pl) (y := b0 + 1) (x := x - 1) (.inr (by rw [Int.add_sub_cancel]; exact B.nl)) (by omega)
        have z2 := lineStart_le cs pl (x - 1)
        have z3 := B.parts (x := lineStart cs pl (x - 1)) (by omega) (by omega)
        refine .inr ⟨by omega, ?_, z3, ?_⟩
        · rw [firstLine_go (by omega) hn.begins, firstLine_stop (by rw [begins_of_parts z3]; simp)]
        · unfold pastParting
          rw [lineStart_self (lineStart_bol (by omega))]
          exact B.past hn.parts (by omega) (by omega)
    · have hgo : firstLine cs pl x = firstLine cs pl (lineStart cs pl (x - 1)) := firstLine_go (by omega) hn.begins
      obtain ⟨a1, a2, a3, _⟩ := P.ls (x := x - 1) (by omega) (by omega)
      rw [hgo]
      exact ih _ (by omega) a1 (by omega) a3 rfl
theorem Par.rest {a b k : Int} (P : Par cs pl a b) (V : Prev cs pl a) (h1 : a ≤ k) (h2 : k ≤ b) (hn : Nb cs pl k) : backRest cs pl k = a ∨ (backRest cs pl k = a - 1 ∧ codeAt cs pl (a - 1) = 10 ∧ pl < a) := by
  have hlo := P.lo
  unfold backRest
  by_cases hk : k = pl
  · rw [if_pos hk]; left; omega
  rw [if_neg hk]
  rcases P.first V h1 h2 hn with ⟨e1, e2⟩ | ⟨e1, e2, e3, e4⟩
  · rw [e2, if_pos P.nb.begins]; exact .inl rfl
  · rw [e2, begins_of_parts e3, e4, if_neg (by simp)]
    by_cases hq : a > pl ∧ lineStart cs pl (a - 1) = a - 1
    · rw [if_pos hq]
      refine .inr ⟨rfl, ?_, e1⟩
      rcases V with h | ⟨b0, B⟩
      · omega
      · exact B.fin
    · rw [if_neg hq]; exact .inl rfl
theorem Par.ibe {a b i : Int} (P : Par cs pl a b) (h1 : a < i) (h2 : i ≤ b) : ¬ (i = pl ∨ isBehindEmpty cs pl i = true) := by
  have hlo := P.lo
  rintro (h | h)
  · omega
  · unfold isBehindEmpty at h
    by_cases hc : i - 1 < pl ∨ codeAt cs pl (i - 1) ≠ 10 ∨ Mine.parts cs pl i = true
    · rw [if_pos hc] at h; exact Bool.noConfusion h
    · rw [if_neg hc] at h
      have h3 := of_decide_eq_true h
      have h10 : codeAt cs pl (i - 1) = 10 := Decidable.not_not.mp fun q => hc (.inr (.inl q))
      by_cases ha : i - 1 = a
      · rw [ha] at h10; exact P.nb.2.2.2.1 h10
      · have q : ¬ codeAt cs pl (i - 1 - 1) = 10 := fun q => by
          have := (P.line (i - 1 - 1) (by omega) (by omega) q).1
          rw [Int.sub_add_cancel] at this
          exact this.2.2.2.1 h10
        rw [lineStart_go (by omega) q] at h3
        have := lineStart_le cs pl (i - 1 - 1)
        omega
theorem Par.ob {a b i : Int} (P : Par cs pl a b) (V : Prev cs pl a) (h1 : a < i) (h2 : i ≤ b) : oneBackward cs pl i = a ∨ (oneBackward cs pl i = a - 1 ∧ codeAt cs pl (a - 1) = 10 ∧ pl < a) := by
  rw [ob_eq (P.ibe h1 h2)]
  obtain ⟨a1, a2, a3, _⟩ := P.ls (x := i - 1) (by omega) (by omega)
  rw [backParts_stop (by rw [a3.parts]; simp)]
  exact P.rest V a1 (by omega) a3
theorem Par.back {a b c x : Int} (P : Par cs pl a b) (B : Blk cs pl b c) (h1 : b < x) (h2 : x < c) (hx : Bol cs pl x) : backParts cs pl x = lineStart cs pl b := by
  obtain ⟨n, hn'⟩ : ∃ n : Nat, (x - b).toNat = n := ⟨_, rfl⟩
  have hlo := B.lo
  induction n using Nat.strongRecOn generalizing x with
  | ind n ih =>
    rw [backParts_go (by omega) (B.parts (by omega) h2)]
    by_cases hb : x - 1 = b
    · rw [hb]
      obtain ⟨a1, a2, a3, _⟩ := P.ls (x := b) (Int.le_of_lt P.ab) (Int.le_refl _)
      rw [backParts_stop (by rw [a3.parts]; simp)]
    · have z1 := lineStart_over (cs := cs) (pl := pl) (y := b + 1) (x := x - 1) (.inr (by rw [Int.add_sub_cancel]; exact B.nl)) (by omega)
      have z2 := lineStart_le cs pl (x - 1)
      exact ih _ (by omega) (by omega) (by omega) (lineStart_bol (by omega)) rfl
theorem Par.ob_blk {a b c i : Int} (P : Par cs pl a b) (V : Prev cs pl a) (B : Blk cs pl b c) (h1 : b < i) (h2 : i ≤ c) (hi : isBehindEmpty cs pl i = false) : oneBackward cs pl i = a ∨ (oneBackward cs pl i = a - 1 ∧ codeAt cs pl (a - 1) = 10 ∧ pl < a) := by
  have hlo := B.lo
  rw [ob_eq (by rw [hi]; simp; omega)]
  obtain ⟨a1, a2, a3, _⟩ := P.ls (x := b) (Int.le_of_lt P.ab) (Int.le_refl _)
  have e : backParts cs pl (lineStart cs pl (i - 1)) = lineStart cs pl b := by
    by_cases hb : i - 1 = b
    · rw [hb, backParts_stop (by rw [a3.parts]; simp)]
    · have z1 := lineStart_over (cs := cs) (pl := pl) (y := b + 1) (x := i - 1) (.inr (by rw [Int.add_sub_cancel]; exact B.nl)) (by omega)
      have z2 := lineStart_le cs pl (i - 1)
      exact P.back B (by omega) (by omega) (lineStart_bol (by omega))
  rw [e]
  exact P.rest V a1 a2 a3
theorem Par.tb_of {a b p i : Int} (P : Par cs pl a b) (h : oneBackward cs pl i = a ∨ (oneBackward cs pl i = a - 1 ∧ codeAt cs pl (a - 1) = 10 ∧ pl < a)) (hp : a < p) : textBegin cs pl p i = a := by
  have e : skipSpaces cs pl (oneBackward cs pl i) = a := by
    have h0 : skipSpaces cs pl a = a := skipSpaces_stop (by rw [P.nb.space]; simp)
    rcases h with h | ⟨h, h10, _⟩
    · rw [h, h0]
    · have := P.nb.inn
      rw [h, skipSpaces_go (by omega) (by rw [h10]; decide), Int.sub_add_cancel, h0]
  rw [textBegin_skip (by omega), e]
/-- text_begin from within, from the end on and from the next paragraph's beginning -/
theorem Par.tb {a b c p : Int} (P : Par cs pl a b) (V : Prev cs pl a) (B : Blk cs pl b c) (h1 : a < p) (h2 : p ≤ c) (hc : p = c → Nb cs pl c) : textBegin cs pl p p = a := by
  by_cases hb : p ≤ b
  · exact P.tb_of (P.ob V h1 hb) h1
  have hlo := B.lo
  have hbc := B.bc
  cases he : isBehindEmpty cs pl p with
  | false => exact P.tb_of (P.ob_blk V B (by omega) h2 he) h1
  | true =>
    have hpc : p = c := by
      rcases Int.lt_or_eq_of_le h2 with h3 | h3
      · unfold isBehindEmpty at he
        rw [if_pos (.inr (.inr (B.parts (by omega) h3)))] at he
        exact Bool.noConfusion he
      · exact h3
    have hn := hc hpc
    subst hpc
    have e1 : oneBackward cs pl p = p - 1 := by
      unfold oneBackward; rw [if_pos (.inr he)]; omega
    have e2 : skipSpaces cs pl (p - 1) = p := B.skip hn.space (by omega) (by omega)
    have e3 := (textBegin_go (cs := cs) (p := p) (i := p) B.p0 (by omega) (by rw [e1, e2]; omega) (by rw [e1]; omega)).1
    rw [e3, e1]
    refine P.tb_of (P.ob_blk V B (by omega) (by omega) ?_) h1
    unfold isBehindEmpty
    rw [if_pos (.inr (.inr (B.parts (by omega) (by omega))))]
end
end
section
/-- the text's make, by places: sentence k is [s k, e k), its stop's place t k; what follows it reaches up to s (k + 1) -/
structure Lay (cs : List Int) (pl : Int) (K : Nat) (s e t : Nat → Int) (last hs : Nat → Bool) : Prop where
  p0 : 0 ≤ pl
  s0 : s 0 = pl
  sK : s K ≤ pl + cs.length
  K0 : 0 < K
  lastK : last (K - 1) = true
  se : ∀ k, k < K → s k < e k
  es : ∀ k, k < K → e k < s (k + 1)
  nb : ∀ k, k < K → Nb cs pl (s k)
  inner : ∀ k, k < K → ∀ i, s k ≤ i → i < e k → codeAt cs pl i ≠ 10
  fin : ∀ k, k < K → isSpaces (codeAt cs pl (e k - 1)) = false
  quiet : ∀ k, k < K → ∀ i, s k ≤ i → i < e k → (hs k = false ∨ i ≠ t k) → gapOf cs pl i < 0
  stop : ∀ k, k < K → hs k = true → s k < t k ∧ t k < e k ∧ closedAt cs pl (t k) = e k
  gapin : ∀ k, k < K → last k = false → hs k = true ∧ k + 1 < K ∧ (∀ i, e k ≤ i → i < s (k + 1) → isSpaces (codeAt cs pl i) = true ∧ (codeAt cs pl i = 10 → i + 1 = s (k + 1))) ∧ 0 ≤ gapBehind cs pl (e k) ∧ gapBehind cs pl (e k) ≤ s (k + 1)
  gaplast : ∀ k, k < K → last k = true → codeAt cs pl (e k) = 10 ∧ e k + 2 ≤ s (k + 1) ∧ (∀ i, e k ≤ i → i < s (k + 1) → codeAt cs pl i = 10 ∨ codeAt cs pl i = 32) ∧ codeAt cs pl (s (k + 1) - 1) = 10
section
variable {cs : List Int} {pl : Int} {K : Nat} {s e t : Nat → Int} {last hs : Nat → Bool}
theorem Lay.mono (Y : Lay cs pl K s e t last hs) : ∀ (d k : Nat), k + d ≤ K → s k ≤ s (k + d)
  | 0, k, _ => Int.le_refl _
  | d + 1, k, h => by
    have h1 := Y.mono d k (by omega)
    have h2 := Y.se (k + d) (by omega)
    have h3 := Y.es (k + d) (by omega)
    have : k + (d + 1) = k + d + 1 := by omega
    rw [this]; omega
theorem Lay.mono' (Y : Lay cs pl K s e t last hs) {k j : Nat} (h : k ≤ j) (hj : j ≤ K) : s k ≤ s j := by
  have := Y.mono (j - k) k (by omega)
  rwa [Nat.add_sub_cancel' h] at this
theorem Lay.pls (Y : Lay cs pl K s e t last hs) {k : Nat} (h : k ≤ K) : pl ≤ s k := by
  have := Y.mono' (Nat.zero_le k) h
  rw [Y.s0] at this; exact this
/-- the paragraph's last sentence -/
theorem Lay.lastOf (Y : Lay cs pl K s e t last hs) {k : Nat} (h : k < K) : ∃ j, k ≤ j ∧ j < K ∧ last j = true ∧ ∀ m, k ≤ m → m < j → last m = false := by
  obtain ⟨n, hn⟩ : ∃ n : Nat, K - k = n := ⟨_, rfl⟩
  induction n generalizing k with
  | zero => omega
  | succ n ih =>
    cases hl : last k with
    | true => exact ⟨k, Nat.le_refl k, h, hl, fun m h1 h2 => by omega⟩
    | false =>
      have hk := (Y.gapin k h hl).2.1
      obtain ⟨j, h1, h2, h3, h4⟩ := ih hk (by omega)
      refine ⟨j, by omega, h2, h3, fun m m1 m2 => ?_⟩
      by_cases hm : m = k
      · rw [hm]; exact hl
      · exact h4 m (by omega) m2
/-- the paragraph's first sentence -/
theorem Lay.firstOf (Y : Lay cs pl K s e t last hs) : ∀ {k : Nat}, k < K → ∃ i, i ≤ k ∧ (i = 0 ∨ last (i - 1) = true) ∧ ∀ m, i ≤ m → m < k → last m = false
  | 0, _ => ⟨0, Nat.le_refl 0, .inl rfl, fun m h1 h2 => by omega⟩
  | k + 1, h => by
    cases hl : last k with
    | true => exact ⟨k + 1, Nat.le_refl _, .inr hl, fun m h1 h2 => by omega⟩
    | false =>
      obtain ⟨i, h1, h2, h3⟩ := Y.firstOf (k := k) (by omega)
      refine ⟨i, by omega, h2, fun m m1 m2 => ?_⟩
      by_cases hm : m = k
      · rw [hm]; exact hl
      · exact h3 m m1 (by omega)
theorem Lay.blk (Y : Lay cs pl K s e t last hs) {k : Nat} (h : k < K) (hl : last k = true) : Blk cs pl (e k) (s (k + 1)) := by
  obtain ⟨h1, h2, h3, h4⟩ := Y.gaplast k h hl
  have a1 := Y.pls (Nat.le_of_lt h)
  have a2 := Y.se k h
  have a3 := Y.mono' (k := k + 1) (j := K) (by omega) (Nat.le_refl K)
  have a4 := Y.sK
  exact ⟨Y.p0, by omega, h2, by omega, h1, h3, h4⟩
/-- which sentence a place within a paragraph belongs to -/
theorem Lay.at (Y : Lay cs pl K s e t last hs) {i j : Nat} (hij : i ≤ j) (hj : j < K) {x : Int} (h1 : s i ≤ x) (h2 : x < e j) : ∃ m, i ≤ m ∧ m ≤ j ∧ s m ≤ x ∧ (x < e m ∨ (e m ≤ x ∧ x < s (m + 1) ∧ m < j)) := by
  obtain ⟨n, hn⟩ : ∃ n : Nat, j - i = n := ⟨_, rfl⟩
  induction n generalizing i with
  | zero =>
    have : i = j := by omega
    subst this
    exact ⟨i, Nat.le_refl _, Nat.le_refl _, h1, .inl h2⟩
  | succ n ih =>
    by_cases h3 : x < s (i + 1)
    · by_cases h4 : x < e i
      · exact ⟨i, Nat.le_refl _, hij, h1, .inl h4⟩
      · exact ⟨i, Nat.le_refl _, hij, h1, .inr ⟨by omega, h3, by omega⟩⟩
    · obtain ⟨m, m1, m2, m3⟩ := ih (i := i + 1) (by omega) (by omega) (by omega)
      exact ⟨m, by omega, m2, m3⟩
theorem Lay.par (Y : Lay cs pl K s e t last hs) {i j : Nat} (hij : i ≤ j) (hj : j < K) (hi : i = 0 ∨ last (i - 1) = true) (hl : last j = true) (hm : ∀ m, i ≤ m → m < j → last m = false) : Par cs pl (s i) (e j) := by
  have a1 := Y.mono' hij (Nat.le_of_lt hj)
  have a2 := Y.se j hj
  refine ⟨Y.p0, Y.pls (by omega), by omega, Y.nb i (by omega), ?_, (Y.gaplast j hj hl).1, ?_⟩
  · rcases hi with rfl | hi
    · exact .inl Y.s0
    · by_cases h0 : i = 0
      · subst h0; exact .inl Y.s0
      · have := (Y.gaplast (i - 1) (by omega) hi).2.2.2
        rw [show i - 1 + 1 = i by omega] at this
        exact .inr this
  · intro x h1 h2 h10
    obtain ⟨m, m1, m2, m3, m4⟩ := Y.at hij hj h1 h2
    rcases m4 with m4 | ⟨m4, m5, m6⟩
    · exact absurd h10 (Y.inner m (by omega) x m3 m4)
    · have q := (Y.gapin m (by omega) (hm m m1 m6)).2.2.1 x m4 m5
      have e1 := q.2 h10
      have e2 := Y.mono' (k := m + 1) (j := j) (by omega) (Nat.le_of_lt hj)
      rw [e1]
      exact ⟨Y.nb (m + 1) (by omega), by omega⟩
theorem Lay.prev (Y : Lay cs pl K s e t last hs) {i : Nat} (h : i < K) (hi : i = 0 ∨ last (i - 1) = true) : Prev cs pl (s i) := by
  rcases hi with rfl | hi
  · exact .inl Y.s0
  · by_cases h0 : i = 0
    · subst h0; exact .inl Y.s0
    · have := Y.blk (k := i - 1) (by omega) hi
      rw [show i - 1 + 1 = i by omega] at this
      exact .inr ⟨_, this⟩
theorem gapOf_nostop {i : Int} (h : isStop (codeAt cs pl i) = false) : gapOf cs pl i < 0 := by
  unfold gapOf closedAt; rw [h]; simp
theorem endMatch_no {i lim : Int} (h : gapOf cs pl i < 0) : endMatch cs pl i lim = -1 := by unfold endMatch; rw [if_pos (.inl h)]
theorem space_nostop {c : Int} (h : isSpaces c = true) : isStop c = false := by
  unfold isSpaces at h
  simp only [Bool.or_eq_true, decide_eq_true_eq] at h
  rcases h with (h | h) | h <;> subst h <;> decide
/-- all signs of what follows a sentence are spaces -/
theorem Lay.gap (Y : Lay cs pl K s e t last hs) {k : Nat} (h : k < K) {i : Int} (h1 : e k ≤ i) (h2 : i < s (k + 1)) : isSpaces (codeAt cs pl i) = true := by
  cases hl : last k with
  | false => exact ((Y.gapin k h hl).2.2.1 i h1 h2).1
  | true => rcases (Y.gaplast k h hl).2.2.1 i h1 h2 with q | q <;> rw [q] <;> decide
theorem Lay.gapq (Y : Lay cs pl K s e t last hs) {k : Nat} (h : k < K) {i : Int} (h1 : e k ≤ i) (h2 : i < s (k + 1)) : gapOf cs pl i < 0 := gapOf_nostop (space_nostop (Y.gap h h1 h2))
theorem spacesTo_all {x y lim : Int} (hy : x ≤ y) (h : ∀ i, x ≤ i → i < y → isSpaces (codeAt cs pl i) = true) (hl : y ≤ lim) (hs : y = lim ∨ isSpaces (codeAt cs pl y) = false) : spacesTo cs pl x lim = y := by
  obtain ⟨n, hn⟩ : ∃ n : Nat, (y - x).toNat = n := ⟨_, rfl⟩
  induction n generalizing x with
  | zero =>
    have : x = y := by omega
    subst this
    refine spacesTo_stop ?_
    rcases hs with h1 | h1
    · omega
    · rw [h1]; simp
  | succ n ih =>
    rw [spacesTo_go (by omega) (h x (Int.le_refl _) (by omega))]
    exact ih (by omega) (fun i h1 h2 => h i (by omega) h2) (by omega)
theorem spacesBegin_all {x y f : Int} (hy : y ≤ x) (hf : f ≤ y) (h : ∀ i, y ≤ i → i < x → isSpaces (codeAt cs pl i) = true) (hs : isSpaces (codeAt cs pl (y - 1)) = false) : spacesBegin cs pl x f = y := by
  obtain ⟨n, hn⟩ : ∃ n : Nat, (x - y).toNat = n := ⟨_, rfl⟩
  induction n generalizing x with
  | zero =>
    have : x = y := by omega
    subst this
    exact spacesBegin_stop (by rw [hs]; simp)
  | succ n ih =>
    rw [spacesBegin_go (by omega) (h (x - 1) (by omega) (by omega))]
    exact ih (by omega) (fun i h1 h2 => h i h1 (by omega)) (by omega)
theorem fwdScan_over {lim x y : Int} (hy : x ≤ y) (hl : y ≤ lim) (h : ∀ i, x ≤ i → i < y → gapOf cs pl i < 0) : fwdScan cs pl lim x = fwdScan cs pl lim y := by
  obtain ⟨n, hn⟩ : ∃ n : Nat, (y - x).toNat = n := ⟨_, rfl⟩
  induction n generalizing x with
  | zero =>
    have : x = y := by omega
    rw [this]
  | succ n ih =>
    rw [fwdScan_go (by omega) (by rw [endMatch_no (h x (Int.le_refl _) (by omega))]; omega)]
    exact ih (by omega) (fun i h1 h2 => h i (by omega) h2) (by omega)
theorem gapOf_stop {x y : Int} (h : closedAt cs pl x = y) (h0 : 0 ≤ y) : gapOf cs pl x = gapBehind cs pl y := by rw [gapOf_eq (by omega), h]
theorem gapBehind_nl {x : Int} (h : codeAt cs pl x = 10) : gapBehind cs pl x = x := by
  unfold gapBehind isLineEnd; rw [h]; simp
/-- text_end -/
theorem Lay.te (Y : Lay cs pl K s e t last hs) {k : Nat} (h : k < K) {p : Int} (h1 : (k = 0 ∧ s 0 ≤ p) ∨ (0 < k ∧ e (k - 1) ≤ p)) (h2 : p < e k) : ∃ j, k ≤ j ∧ j < K ∧ last j = true ∧ (∀ m, k ≤ m → m < j → last m = false) ∧ textEnd cs pl p p = e j := by
  obtain ⟨j, j1, j2, j3, j4⟩ := Y.lastOf h
  refine ⟨j, j1, j2, j3, j4, ?_⟩
  obtain ⟨i, i1, i2, i3⟩ := Y.firstOf h
  have hj := Y.mono' j1 (Nat.le_of_lt j2)
  have hje := Y.se j j2
  have hmid : ∀ m, i ≤ m → m < j → last m = false := fun m m1 m2 => by
    by_cases hm : m < k
    · exact i3 m m1 hm
    · exact j4 m (by omega) m2
  have P := Y.par (by omega) j2 i2 j3 hmid
  have B := Y.blk j2 j3
  have hb : parts cs pl (e j + 1) = true := B.parts (by omega) (by have := B.bc; omega)
  have hlt : p < e j := by
    rcases Nat.lt_or_eq_of_le j1 with h3 | h3
    · have a1 := Y.es k h
      have a2 := Y.mono' (k := k + 1) (j := j) (by omega) (Nat.le_of_lt j2)
      omega
    · subst h3; exact h2
  by_cases hp : s i ≤ p
  · exact P.te hb hp hlt
  · have hi : i = k := by
      rcases Nat.lt_or_eq_of_le i1 with h3 | h3
      · exfalso
        have a1 := Y.se (k - 1) (by omega)
        have a2 := Y.mono' (k := i) (j := k - 1) (by omega) (by omega)
        rcases h1 with ⟨h1, _⟩ | ⟨_, h1⟩ <;> omega
      · exact h3
    subst hi
    rcases h1 with ⟨h1, h1'⟩ | ⟨h0, h1⟩
    · subst h1; omega
    · have hl0 : last (i - 1) = true := by
        rcases i2 with h3 | h3
        · omega
        · exact h3
      obtain ⟨i', i1', i2', i3'⟩ := Y.firstOf (k := i - 1) (by omega)
      have P0 := Y.par i1' (by omega) i2' hl0 i3'
      have B0 := Y.blk (k := i - 1) (by omega) hl0
      rw [show i - 1 + 1 = i by omega] at B0
      exact P.te_prev P0 B0 hb h1 (by omega)
/-- forward-sentence -/
theorem Lay.fwd (Y : Lay cs pl K s e t last hs) {k : Nat} (h : k < K) {p : Int} (h1 : (k = 0 ∧ s 0 ≤ p) ∨ (0 < k ∧ e (k - 1) ≤ p)) (h2 : p < e k) (h3 : p ≤ s k + 1) : oneFwd cs pl p = e k := by
  obtain ⟨j, j1, j2, j3, j4, hte⟩ := Y.te h h1 h2
  unfold oneFwd
  rw [hte]
  have a1 := Y.se k h
  have a2 := Y.es k h
  have a0 := Y.pls (Nat.le_of_lt h)
  have hp0 := Y.p0
  have hq : ∀ i, p ≤ i → i < s k → gapOf cs pl i < 0 := fun i q1 q2 => by
    rcases h1 with ⟨h1, h1'⟩ | ⟨h0, h1⟩
    · subst h1; omega
    · have := Y.gapq (k := k - 1) (by omega) (i := i) (by omega) (by rw [show k - 1 + 1 = k by omega]; exact q2)
      exact this
  have hje : e k ≤ e j := by
    rcases Nat.lt_or_eq_of_le j1 with h4 | h4
    · have b1 := Y.mono' (k := k + 1) (j := j) (by omega) (Nat.le_of_lt j2)
      have b2 := Y.se j j2
      omega
    · subst h4; omega
  cases hh : hs k with
  | false =>
    have hl : last k = true := by
      cases hl : last k with
      | true => rfl
      | false => have := (Y.gapin k h hl).1; rw [hh] at this; exact Bool.noConfusion this
    have hjk : j = k := by
      rcases Nat.lt_or_eq_of_le j1 with h4 | h4
      · have := j4 k (Nat.le_refl _) h4; rw [hl] at this; exact Bool.noConfusion this
      · exact h4.symm
    subst hjk
    rw [fwdScan_over (y := e j) (by omega) (Int.le_refl _) (fun i q1 q2 => by
      by_cases q3 : i < s j
      · exact hq i q1 q3
      · exact Y.quiet j h i (by omega) q2 (.inl hh)), fwdScan_end (by omega)]
  | true =>
    obtain ⟨t1, t2, t3⟩ := Y.stop k h hh
    rw [fwdScan_over (y := t k) (by omega) (by omega) (fun i q1 q2 => by
      by_cases q3 : i < s k
      · exact hq i q1 q3
      · exact Y.quiet k h i (by omega) (by omega) (.inr (by omega)))]
    have hg : gapOf cs pl (t k) = gapBehind cs pl (e k) := gapOf_stop t3 (by omega)
    have key : ∀ y, e k ≤ y → (∀ i, e k ≤ i → i < y → isSpaces (codeAt cs pl i) = true) → endMatch cs pl (t k) (e j) = y → fwdScan cs pl (e j) (t k) = e k := fun y y1 y2 y3 => by
      rw [fwdScan_hit (by omega) (by rw [y3]; omega), y3]
      exact spacesBegin_all y1 (by omega) y2 (Y.fin k h)
    cases hl : last k with
    | true =>
      have hjk : j = k := by
        rcases Nat.lt_or_eq_of_le j1 with h4 | h4
        · have := j4 k (Nat.le_refl _) h4; rw [hl] at this; exact Bool.noConfusion this
        · exact h4.symm
      subst hjk
      have hg2 : gapOf cs pl (t j) = e j := by rw [hg]; exact gapBehind_nl (Y.gaplast j h hl).1
      refine key (e j) (Int.le_refl _) (fun i q1 q2 => by omega) ?_
      unfold endMatch
      rw [hg2, if_neg (by omega), spacesTo_stop (by omega)]
    | false =>
      obtain ⟨_, g1, g2, g3, g4⟩ := Y.gapin k h hl
      have hjk : k < j := by
        rcases Nat.lt_or_eq_of_le j1 with h4 | h4
        · exact h4
        · subst h4; rw [hl] at j3; exact Bool.noConfusion j3
      have b1 := Y.mono' (k := k + 1) (j := j) (by omega) (Nat.le_of_lt j2)
      have b2 := Y.se j j2
      have b3 := gapBehind_ge (cs := cs) (pl := pl) (i := e k) (by omega)
      refine key (s (k + 1)) (by omega) (fun i q1 q2 => (g2 i q1 q2).1) ?_
      unfold endMatch
      rw [hg, if_neg (by omega)]
      exact spacesTo_all g4 (fun i q1 q2 => (g2 i (by omega) q2).1) (by omega) (.inr (Y.nb (k + 1) g1).space)
/-- text_begin -/
theorem Lay.tb (Y : Lay cs pl K s e t last hs) {k : Nat} (h : k < K) {p : Int} (h1 : s k < p) (h2 : p ≤ s (k + 1)) (h3 : p = s (k + 1) → k + 1 < K) : ∃ i, i ≤ k ∧ (∀ m, i ≤ m → m < k → last m = false) ∧ textBegin cs pl p p = s i := by
  obtain ⟨j, j1, j2, j3, j4⟩ := Y.lastOf h
  obtain ⟨i, i1, i2, i3⟩ := Y.firstOf h
  refine ⟨i, i1, i3, ?_⟩
  have hmid : ∀ m, i ≤ m → m < j → last m = false := fun m m1 m2 => by
    by_cases hm : m < k
    · exact i3 m m1 hm
    · exact j4 m (by omega) m2
  have P := Y.par (by omega) j2 i2 j3 hmid
  have B := Y.blk j2 j3
  have a1 := Y.mono' i1 (Nat.le_of_lt h)
  have a2 := Y.mono' (k := k + 1) (j := j + 1) (by omega) (by omega)
  refine P.tb (Y.prev (by omega) i2) B (by omega) (by omega) fun hp => ?_
  have hjk : j = k := by
    rcases Nat.lt_or_eq_of_le j1 with h4 | h4
    · exfalso
      have b1 := Y.es j j2
      have b2 := Y.se j j2
      have b3 := Y.mono' (k := k + 1) (j := j) (by omega) (Nat.le_of_lt j2)
      omega
    · exact h4.symm
  subst hjk
  exact Y.nb (j + 1) (h3 hp)
theorem bwdScan_over {p f x y : Int} (hy : y ≤ x) (hf : f ≤ y + 1) (h : ∀ i, y < i → i ≤ x → ¬ (0 ≤ endMatch cs pl i p ∧ endMatch cs pl i p < p ∧ isSpaces (codeAt cs pl (endMatch cs pl i p)) = false)) : bwdScan cs pl p f x = bwdScan cs pl p f y := by
  obtain ⟨n, hn⟩ : ∃ n : Nat, (x - y).toNat = n := ⟨_, rfl⟩
  induction n generalizing x with
  | zero =>
    have : x = y := by omega
    rw [this]
  | succ n ih =>
    rw [bwdScan_go (by omega) (h x (by omega) (Int.le_refl _))]
    exact ih (by omega) (fun i h1 h2 => h i h1 (by omega)) (by omega)
theorem no_hit {p i : Int} (h : gapOf cs pl i < 0) : ¬ (0 ≤ endMatch cs pl i p ∧ endMatch cs pl i p < p ∧ isSpaces (codeAt cs pl (endMatch cs pl i p)) = false) := by
  rw [endMatch_no h]; omega
/-- backward-sentence -/
theorem Lay.bwd (Y : Lay cs pl K s e t last hs) {k : Nat} (h : k < K) {p : Int} (h1 : s k < p) (h2 : p ≤ s (k + 1)) (h3 : p = s (k + 1) → k + 1 < K) (h4 : p = s k + 1 ∨ e k ≤ p) : oneBwd cs pl p = s k := by
  obtain ⟨i, i1, i3, htb⟩ := Y.tb h h1 h2 h3
  unfold oneBwd
  rw [htb]
  have a0 := Y.mono' i1 (Nat.le_of_lt h)
  have ap := Y.pls (Nat.le_of_lt h)
  have hp0 := Y.p0
  have a1 := Y.se k h
  -- none within the sentence and behind it
  have here : ∀ x, s k ≤ x → x ≤ p - 1 → ¬ (0 ≤ endMatch cs pl x p ∧ endMatch cs pl x p < p ∧ isSpaces (codeAt cs pl (endMatch cs pl x p)) = false) := fun x x1 x2 => by
    by_cases x3 : e k ≤ x
    · exact no_hit (Y.gapq h x3 (by omega))
    · by_cases x4 : hs k = false ∨ x ≠ t k
      · exact no_hit (Y.quiet k h x x1 (by omega) x4)
      · have hh : hs k = true := by
          cases hh : hs k with
          | true => rfl
          | false => exact absurd (.inl hh) x4
        have hx : x = t k := Decidable.not_not.mp fun q => x4 (.inr q)
        obtain ⟨t1, t2, t3⟩ := Y.stop k h hh
        have hep : e k ≤ p := by rcases h4 with h4 | h4 <;> omega
        subst hx
        have hg : gapOf cs pl (t k) = gapBehind cs pl (e k) := gapOf_stop t3 (by omega)
        unfold endMatch
        rw [hg]
        by_cases hc : gapBehind cs pl (e k) < 0 ∨ gapBehind cs pl (e k) > p
        · rw [if_pos hc]; omega
        · rw [if_neg hc]
          have b3 := gapBehind_ge (cs := cs) (pl := pl) (i := e k) (by omega)
          rw [spacesTo_all (y := p) (by omega) (fun z z1 z2 => Y.gap h (by omega) (by omega)) (Int.le_refl _) (.inl rfl)]
          omega
  rw [bwdScan_over (y := s k - 1) (by omega) (by omega) (fun x x1 x2 => here x (by omega) x2)]
  rcases Nat.lt_or_eq_of_le i1 with hik | hik
  · have hl := i3 (k - 1) (by omega) (by omega)
    obtain ⟨g0, g1, g2, g3, g4⟩ := Y.gapin (k - 1) (by omega) hl
    obtain ⟨t1, t2, t3⟩ := Y.stop (k - 1) (by omega) g0
    have b0 := Y.es (k - 1) (by omega)
    have b1 := Y.mono' (k := i) (j := k - 1) (by omega) (by omega)
    have b2 := Y.pls (k := k - 1) (by omega)
    rw [show k - 1 + 1 = k by omega] at g2 g4 b0
    rw [bwdScan_over (y := t (k - 1)) (by omega) (by omega) (fun x x1 x2 => by
      by_cases x3 : e (k - 1) ≤ x
      · exact no_hit (Y.gapq (k := k - 1) (by omega) x3 (by rw [show k - 1 + 1 = k by omega]; omega))
      · exact no_hit (Y.quiet (k - 1) (by omega) x (by omega) (by omega) (.inr (by omega))))]
    have hg : gapOf cs pl (t (k - 1)) = gapBehind cs pl (e (k - 1)) := gapOf_stop t3 (by omega)
    have b3 := gapBehind_ge (cs := cs) (pl := pl) (i := e (k - 1)) (by omega)
    have he : endMatch cs pl (t (k - 1)) p = s k := by
      unfold endMatch
      rw [hg, if_neg (by omega)]
      exact spacesTo_all g4 (fun z z1 z2 => (g2 z (by omega) z2).1) (by omega) (.inr (Y.nb k h).space)
    rw [bwdScan_hit (by omega) (by rw [he]; exact ⟨by omega, h1, (Y.nb k h).space⟩), he]
  · subst hik
    rw [bwdScan_end (by omega)]
end
end
section
open PySem PySem.W PyProof.Rows
theorem reset_V1 : True := by
  w_top off
  k_with_none
  k_with "* my sides" => (
  (case zzk1 => k_asm); (case zzk2 => k_asm); (case zzk3 => k_asm); (case zzk4 => k_asm); (case zzk5 => k_asm);
  (case zzkK => first | exact rfl | assumption);
  (case zzkP => first | assumption | exact trivial);
  (case zzkd => ktr_room); (case zzku => ktr_units);
  intro t9 h9 tk9 F9 N9; (try dsimp only); (try k_fold))
  k_with "* my enter" => (refine wpAny_call ?_; k_dflt cell_enter)
  k_with "* call builtin:len" => (
  k_here; (with_reducible show wpAny _ _ (call (Value.builtin "len") [Value.ref _]) _ _ _);
  k_dflt (refine' len_list (News.isList (by k_asm) (by k_mem)) ?zzkz ?_; (case zzkz => ((try simp only [List.size_toArray]); (rename IntsAre _ _ => hI9); (have hI8 := IntsAre.length hI9); omega)); k_whole); (try simp only [List.size_toArray]))
  trivial
/-- a call of the def at f that changes nothing of what stands: what it asks of the ledger, what it gives back -/
noncomputable def RO (w : World) (f : Addr) (D : Nat) (vs : List Value) (P : List (Addr × Obj) → Prop) (R : Tok → Value) : Prop :=
  ∀ (mean : ExcName → Option Value) (mg mb : Str → Option Value) (dp un : Nat) (gd : Option (List Code)) (cn : Str) (cs : Scope) (a : Addr) (ccd : Value) (cl : List (Str × Addr)) (outer : List Env) (A₀ : Around) (base h₀ : Heap) (L : Addr) (m : Str → Option Value) (news : List (Addr × Obj)) (s : Shared) (Q E : Value → Shared → Prop),
    Below A₀ base outer h₀ → Fr h₀ L s.heap m → (Mine.hd.heap_39 w.params).In h₀ → News h₀ L s.heap news → Top Mine.hd.view_39 (looseW Mine.hd.view_39 [Str.ofString "PARTING", Str.ofString "SPACES"]) mean mg mb h₀ → cs.kind = .function → dp + D < recursionLimit → un + 8 * D < cLine →
    P news →
    (∀ (t : Tok) (h' : Heap) (tk' : Nat), Fr h₀ L h' m → News h₀ L h' news → Q (R t) { s with heap := h', toks := tk' }) →
    wpAny (model PySem.Challenge.rw_np0037_01.row.prog w) (ktrTop dp un gd cn cs L a ccd cl outer) (call (.ref f) vs) Q E s
theorem RO.use {w : World} {f : Addr} {D : Nat} {vs : List Value} {P : List (Addr × Obj) → Prop} {R : Tok → Value} (C : RO w f D vs P R)
    {mean : ExcName → Option Value} {mg mb : Str → Option Value} {dp un : Nat} {gd : Option (List Code)} {cn : Str} {cs : Scope} {a : Addr} {ccd : Value} {cl : List (Str × Addr)} {outer : List Env} {A₀ : Around} {base h₀ : Heap} {L : Addr} {m : Str → Option Value} {news : List (Addr × Obj)} {s : Shared} {Q E : Value → Shared → Prop}
    (B : Below A₀ base outer h₀) (F : Fr h₀ L s.heap m) (X : (Mine.hd.heap_39 w.params).In h₀) (N : News h₀ L s.heap news) (T : Top Mine.hd.view_39 (looseW Mine.hd.view_39 [Str.ofString "PARTING", Str.ofString "SPACES"]) mean mg mb h₀) (hk : cs.kind = .function) (hP : P news) (hd : dp + D < recursionLimit) (hu : un + 8 * D < cLine)
    (ret : ∀ (t : Tok) (h' : Heap) (tk' : Nat), Fr h₀ L h' m → News h₀ L h' news → Q (R t) { s with heap := h', toks := tk' }) :
    wpAny (model PySem.Challenge.rw_np0037_01.row.prog w) (ktrTop dp un gd cn cs L a ccd cl outer) (call (.ref f) vs) Q E s :=
  C mean mg mb dp un gd cn cs a ccd cl outer A₀ base h₀ L m news s Q E B F X N T hk hd hu hP ret
/-- a call that hands back a new tuple -/
noncomputable def RT (w : World) (f : Addr) (D : Nat) (vs : List Value) (P : List (Addr × Obj) → Prop) (R : Tok → List Value) : Prop :=
  ∀ (mean : ExcName → Option Value) (mg mb : Str → Option Value) (dp un : Nat) (gd : Option (List Code)) (cn : Str) (cs : Scope) (a : Addr) (ccd : Value) (cl : List (Str × Addr)) (outer : List Env) (A₀ : Around) (base h₀ : Heap) (L : Addr) (m : Str → Option Value) (news : List (Addr × Obj)) (s : Shared) (Q E : Value → Shared → Prop),
    Below A₀ base outer h₀ → Fr h₀ L s.heap m → (Mine.hd.heap_39 w.params).In h₀ → News h₀ L s.heap news → Top Mine.hd.view_39 (looseW Mine.hd.view_39 [Str.ofString "PARTING", Str.ofString "SPACES"]) mean mg mb h₀ → cs.kind = .function → dp + D < recursionLimit → un + 8 * D < cLine →
    P news →
    (∀ (q : Addr) (t : Tok) (h' : Heap) (tk' : Nat), Fr h₀ L h' m → News h₀ L h' ((q, ({ cls := .type "tuple", data := .seq (R t).toArray } : Obj)) :: news) → Q (.ref q) { s with heap := h', toks := tk' }) →
    wpAny (model PySem.Challenge.rw_np0037_01.row.prog w) (ktrTop dp un gd cn cs L a ccd cl outer) (call (.ref f) vs) Q E s
theorem RT.use {w : World} {f : Addr} {D : Nat} {vs : List Value} {P : List (Addr × Obj) → Prop} {R : Tok → List Value} (C : RT w f D vs P R)
    {mean : ExcName → Option Value} {mg mb : Str → Option Value} {dp un : Nat} {gd : Option (List Code)} {cn : Str} {cs : Scope} {a : Addr} {ccd : Value} {cl : List (Str × Addr)} {outer : List Env} {A₀ : Around} {base h₀ : Heap} {L : Addr} {m : Str → Option Value} {news : List (Addr × Obj)} {s : Shared} {Q E : Value → Shared → Prop}
    (B : Below A₀ base outer h₀) (F : Fr h₀ L s.heap m) (X : (Mine.hd.heap_39 w.params).In h₀) (N : News h₀ L s.heap news) (T : Top Mine.hd.view_39 (looseW Mine.hd.view_39 [Str.ofString "PARTING", Str.ofString "SPACES"]) mean mg mb h₀) (hk : cs.kind = .function) (hP : P news) (hd : dp + D < recursionLimit) (hu : un + 8 * D < cLine)
    (ret : ∀ (q : Addr) (t : Tok) (h' : Heap) (tk' : Nat), Fr h₀ L h' m → News h₀ L h' ((q, ({ cls := .type "tuple", data := .seq (R t).toArray } : Obj)) :: news) → Q (.ref q) { s with heap := h', toks := tk' }) :
    wpAny (model PySem.Challenge.rw_np0037_01.row.prog w) (ktrTop dp un gd cn cs L a ccd cl outer) (call (.ref f) vs) Q E s :=
  C mean mg mb dp un gd cn cs a ccd cl outer A₀ base h₀ L m news s Q E B F X N T hk hd hu hP ret
theorem ret_tup {h₀ h' : Heap} {L q : Addr} {m : Str → Option Value} {news news' : List (Addr × Obj)} {s : Shared} {Q : Value → Shared → Prop} {R : Tok → List Value} {us : List Value} {tk' : Nat}
    (hret : ∀ (q : Addr) (t : Tok) (h' : Heap) (tk' : Nat), Fr h₀ L h' m → News h₀ L h' ((q, ({ cls := .type "tuple", data := .seq (R t).toArray } : Obj)) :: news) → Q (.ref q) { s with heap := h', toks := tk' }) (t : Tok) (F : Fr h₀ L h' m) (N : News h₀ L h' news') (hm : (q, ({ cls := .type "tuple", data := .seq us.toArray } : Obj)) ∈ news') (hs : ∀ p ∈ news, p ∈ news') (e : us = R t) : Q (.ref q) { s with heap := h', toks := tk' } := by
  subst e
  exact hret q t h' tk' F (cb_drop N fun p hp => by rcases List.mem_cons.mp hp with rfl | hp; exact hm; exact hs p hp)
/-- the ends -/
theorem ret_of {h₀ h' : Heap} {L : Addr} {m : Str → Option Value} {news news' : List (Addr × Obj)} {s : Shared} {Q : Value → Shared → Prop} {R : Tok → Value} {v : Value} {tk' : Nat}
    (hret : ∀ (t : Tok) (h' : Heap) (tk' : Nat), Fr h₀ L h' m → News h₀ L h' news → Q (R t) { s with heap := h', toks := tk' }) (t : Tok) (e : v = R t) (F : Fr h₀ L h' m) (N : News h₀ L h' news') (hs : ∀ p ∈ news, p ∈ news') : Q v { s with heap := h', toks := tk' } := by
  subst e
  exact hret t h' tk' F (cb_drop N hs)
theorem ret_int {h₀ h' : Heap} {L : Addr} {m : Str → Option Value} {news news' : List (Addr × Obj)} {s : Shared} {Q : Value → Shared → Prop} {x y : Int} {t : Tok} {tk' : Nat}
    (hret : ∀ (t : Tok) (h' : Heap) (tk' : Nat), Fr h₀ L h' m → News h₀ L h' news → Q (.int x t) { s with heap := h', toks := tk' }) (F : Fr h₀ L h' m) (N : News h₀ L h' news') (hs : ∀ p ∈ news, p ∈ news') (e : y = x) : Q (.int y t) { s with heap := h', toks := tk' } := by
  subst e
  exact hret t h' tk' F (cb_drop N hs)
theorem ret_bool {h₀ h' : Heap} {L : Addr} {m : Str → Option Value} {news news' : List (Addr × Obj)} {s : Shared} {Q : Value → Shared → Prop} {x y : Bool} {tk' : Nat}
    (hret : ∀ (t : Tok) (h' : Heap) (tk' : Nat), Fr h₀ L h' m → News h₀ L h' news → Q (.bool x) { s with heap := h', toks := tk' }) (F : Fr h₀ L h' m) (N : News h₀ L h' news') (hs : ∀ p ∈ news, p ∈ news') (e : y = x) : Q (.bool y) { s with heap := h', toks := tk' } := by
  subst e
  exact hret 0 h' tk' F (cb_drop N hs)
/-- the row object at x: its signs, its first place -/
noncomputable def Vw (w : World) (x : Addr) (cs : List Int) (pl : Int) (news : List (Addr × Obj)) : Prop :=
  ∃ (dx l : Addr) (t1 t2 t3 : Tok) (vs : List Value) (k : Nat),
    (x, instObj 204 dx) ∈ news ∧ (dx, dictOf [⟨PyData.keyHash w.params (Str.ofString "codes"), .str (Str.ofString "codes") t1, .ref l⟩, ⟨PyData.keyHash w.params (Str.ofString "place"), .str (Str.ofString "place") t2, .int pl t3⟩] 2) ∈ news ∧
    (l, ({cls := .type "list", data := .seq vs.toArray k} : Obj)) ∈ news ∧ IntsAre vs cs ∧ cs.length < 1000000 ∧ 0 ≤ pl ∧ pl < 1000000
theorem Vw.mono {w : World} {x : Addr} {cs : List Int} {pl : Int} {news news' : List (Addr × Obj)} (V : Vw w x cs pl news) (h : ∀ p ∈ news, p ∈ news') : Vw w x cs pl news' := by
  obtain ⟨dx, l, t1, t2, t3, vs, k, V1, V2, V3, r⟩ := V
  exact ⟨dx, l, t1, t2, t3, vs, k, h _ V1, h _ V2, h _ V3, r⟩
-- x in a tuple that stands at the top
theorem in_top {prog : Program} {w : World} {A : Around} {E : Value → Shared → Prop} {s : Shared} {K : Frag} {t L : Addr} {h₀ : Heap} {m : Str → Option Value} {items : Array Value} {n : Nat} {d : Option Addr} {sl : Array (Option Value)} {ks : List Int} {x : Int} {u : Tok} {b : Bool} {Q : Value → Shared → Prop}
    (F : Fr h₀ L s.heap m) (X₀ : K.In h₀) (ho : K.lookup t = some { cls := .type "tuple", dict := d, data := .seq items n, slots := sl }) (hi : IntsAre items.toList ks) (e : ks.any (· == x) = b) (h : Q (.bool b) s) :
    wpAny (model prog w) A (compareOp .In (.int x u) (.ref t)) Q E s := in_tuple_ints (kun_topT F X₀ ho) hi (by rw [e]; exact h)
theorem notin_top {prog : Program} {w : World} {A : Around} {E : Value → Shared → Prop} {s : Shared} {K : Frag} {t L : Addr} {h₀ : Heap} {m : Str → Option Value} {items : Array Value} {n : Nat} {d : Option Addr} {sl : Array (Option Value)} {ks : List Int} {x : Int} {u : Tok} {b : Bool} {Q : Value → Shared → Prop}
    (F : Fr h₀ L s.heap m) (X₀ : K.In h₀) (ho : K.lookup t = some { cls := .type "tuple", dict := d, data := .seq items n, slots := sl }) (hi : IntsAre items.toList ks) (e : ks.any (· == x) = b) (h : Q (.bool (!b)) s) :
    wpAny (model prog w) A (compareOp .NotIn (.int x u) (.ref t)) Q E s := notin_tuple_ints (kun_topT F X₀ ho) hi (by rw [e]; exact h)
theorem in_led {prog : Program} {w : World} {A : Around} {E : Value → Shared → Prop} {s : Shared} {t : Addr} {items : Array Value} {ks : List Int} {x : Int} {u : Tok} {b : Bool} {Q : Value → Shared → Prop}
    (ht : IsTup s.heap t items) (hi : IntsAre items.toList ks) (e : ks.any (· == x) = b) (h : Q (.bool b) s) : wpAny (model prog w) A (compareOp .In (.int x u) (.ref t)) Q E s := in_tuple_ints ht hi (by rw [e]; exact h)
theorem int_beq (a x : Int) : (a == x) = decide (x = a) := by
  by_cases h : x = a
  · subst h; simp
  · rw [decide_eq_false h]; simp; omega
theorem int_beq_decide (a x : Int) : (a == x) = decide (a = x) := by
  by_cases h : a = x
  · subst h; simp
  · rw [decide_eq_false h]; simp; omega
theorem any_parting (x : Int) : [32, 9, 12].any (· == x) = isParting x := by simp only [List.any_cons, List.any_nil, int_beq, Bool.or_false, isParting, Bool.or_assoc]
theorem any_stop (x : Int) : [46, 63, 33].any (· == x) = isStop x := by simp only [List.any_cons, List.any_nil, int_beq, Bool.or_false, isStop, Bool.or_assoc]
theorem any_closing (x : Int) : [93, 34, 39, 41, 125].any (· == x) = isClosing x := by simp only [List.any_cons, List.any_nil, int_beq, Bool.or_false, isClosing, Bool.or_assoc]
theorem any_spaces (x : Int) : [32, 9, 10].any (· == x) = isSpaces x := by simp only [List.any_cons, List.any_nil, int_beq, Bool.or_false, isSpaces, Bool.or_assoc]
-- a call's sides, once a contract is laid on
-- the def is entered
-- a list of ints on the ledger
set_option maxRecDepth 100000
set_option maxHeartbeats 8000000
theorem c_begin (w : World) (x : Addr) (ns : List Int) (pl : Int) : RO w 187 1 [.ref x] (Vw w x ns pl) (fun t => .int pl t) := by
  unfold RO
  k_fill
  intro mean mg mb dp un gd cn cs a ccd cl outer A₀ base h₀ L m news s Q E B F X N T hk hdp hun V hret
  obtain ⟨dx, l, t1, t2, t3, vs, k, V1, V2, V3, hI, hlen, hp0, hp1⟩ := V
  have hvl := IntsAre.length hI
  k_extra "* my enter"
  k_steps
  all_goals (refine' ret_int hret ?e1 ?e2 ?e3 ?e4; (case e1 => k_asm); (case e2 => k_asm); (case e3 => exact fun _ hp => hp); (case e4 => first | rfl | omega))
theorem c_end (w : World) (x : Addr) (ns : List Int) (pl : Int) : RO w 194 1 [.ref x] (Vw w x ns pl) (fun t => .int (pl + ns.length) t) := by
  unfold RO
  k_fill
  intro mean mg mb dp un gd cn cs a ccd cl outer A₀ base h₀ L m news s Q E B F X N T hk hdp hun V hret
  obtain ⟨dx, l, t1, t2, t3, vs, k, V1, V2, V3, hI, hlen, hp0, hp1⟩ := V
  have hvl := IntsAre.length hI
  k_extra "* my enter"
  k_steps
  all_goals (refine' ret_int hret ?e1 ?e2 ?e3 ?e4; (case e1 => k_asm); (case e2 => k_asm); (case e3 => exact fun _ hp => hp); (case e4 => first | rfl | omega))
theorem c_code_at (w : World) (x : Addr) (ns : List Int) (pl i : Int) (ti : Tok) : RO w 201 1 [.ref x, .int i ti] (Vw w x ns pl) (fun t => .int (codeAt ns pl i) t) := by
  unfold RO
  k_fill
  intro mean mg mb dp un gd cn cs a ccd cl outer A₀ base h₀ L m news s Q E B F X N T hk hdp hun V hret
  obtain ⟨dx, l, t1, t2, t3, vs, k, V1, V2, V3, hI, hlen, hp0, hp1⟩ := V
  have hvl := IntsAre.length hI
  k_extra "* my enter"
  k_steps
  all_goals (refine' ret_int hret ?e1 ?e2 ?e3 ?e4; (case e1 => k_asm); (case e2 => k_asm); (case e3 => exact fun _ hp => hp); (case e4 => (unfold codeAt; split <;> first | rfl | omega)))
end
section
open PySem PySem.W PyProof.Rows
theorem reset_V2 : True := by
  w_top off
  k_with_none
  k_with "* my sides" => (
  (case zzk1 => k_asm); (case zzk2 => k_asm); (case zzk3 => k_asm); (case zzk4 => k_asm); (case zzk5 => k_asm);
  (case zzkK => first | exact rfl | assumption);
  (case zzkP => first | assumption | exact trivial | (refine Vw.mono (by assumption) ?_; intro p9 hp9; repeat (first | exact hp9 | refine List.Mem.tail _ ?_)));
  (case zzkd => ktr_room); (case zzku => ktr_units);
  intro t9 h9 tk9 F9 N9; (try dsimp only); (try k_fold))
  k_with "* compareOp In int ref" => (k_here; k_dflt (first
  | refine' in_top (t := 43) ?zzF ?zzX ?zzl ?zzi (any_parting _) ?_; (case zzF => k_asm); (case zzX => k_asm); (case zzl => k_is); (case zzi => exact IntsAre.cons _ _ (IntsAre.cons _ _ (IntsAre.cons _ _ IntsAre.nil))); k_whole
  | refine' in_top (t := 114) ?zzF ?zzX ?zzl ?zzi (any_stop _) ?_; (case zzF => k_asm); (case zzX => k_asm); (case zzl => k_is); (case zzi => exact IntsAre.cons _ _ (IntsAre.cons _ _ (IntsAre.cons _ _ IntsAre.nil))); k_whole
  | refine' in_top (t := 115) ?zzF ?zzX ?zzl ?zzi (any_closing _) ?_; (case zzF => k_asm); (case zzX => k_asm); (case zzl => k_is); (case zzi => exact IntsAre.cons _ _ (IntsAre.cons _ _ (IntsAre.cons _ _ (IntsAre.cons _ _ (IntsAre.cons _ _ IntsAre.nil))))); k_whole
  | refine' in_top (t := 116) ?zzF ?zzX ?zzl ?zzi (any_spaces _) ?_; (case zzF => k_asm); (case zzX => k_asm); (case zzl => k_is); (case zzi => exact IntsAre.cons _ _ (IntsAre.cons _ _ (IntsAre.cons _ _ IntsAre.nil))); k_whole
  | refine' in_led ?zzt ?zzi (any_spaces _) ?_; (case zzt => exact News.isTup (by k_asm) (by k_mem)); (case zzi => exact IntsAre.cons _ _ (IntsAre.cons _ _ (IntsAre.cons _ _ IntsAre.nil))); k_whole))
  k_with "* compareOp NotIn int ref" => (k_here; k_dflt (first
  | refine' notin_top (t := 114) ?zzF ?zzX ?zzl ?zzi (any_stop _) ?_; (case zzF => k_asm); (case zzX => k_asm); (case zzl => k_is); (case zzi => exact IntsAre.cons _ _ (IntsAre.cons _ _ (IntsAre.cons _ _ IntsAre.nil))); k_whole
  | refine' notin_top (t := 116) ?zzF ?zzX ?zzl ?zzi (any_spaces _) ?_; (case zzF => k_asm); (case zzX => k_asm); (case zzl => k_is); (case zzi => exact IntsAre.cons _ _ (IntsAre.cons _ _ (IntsAre.cons _ _ IntsAre.nil))); k_whole))
  k_with "* my sides2" => (
  (case zzk1 => k_asm); (case zzk2 => k_asm); (case zzk3 => k_asm); (case zzk4 => k_asm); (case zzk5 => k_asm);
  (case zzkK => first | exact rfl | assumption);
  (case zzkP => first | assumption | exact trivial | (refine Vw.mono (by assumption) ?_; intro p9 hp9; repeat (first | exact hp9 | refine List.Mem.tail _ ?_)));
  (case zzkd => ktr_room); (case zzku => ktr_units);
  intro q9 t9 h9 tk9 F9 N9; (try dsimp only); (try k_fold))
  k_with "* my enter" => (refine wpAny_call ?_; k_dflt cell_enter)
  k_with "* exec While BoolOp cons nil" => k_extra "exec While BoolOp cons nil"
  k_with "* exec While Compare cons nil" => k_extra "exec While Compare cons nil"
  k_with "* exec While Constant cons nil" => k_extra "exec While Constant cons nil"
  k_with "* call ref cons nil" => k_extra "* my call"
  k_with "* call ref nil" => k_extra "* my call"
  k_with "* my call" => (k_here; (try dsimp only [List.append_nil]); (with_reducible show wpAny _ _ (call (Value.ref 187) _) _ _ _); k_dflt (refine' RO.use (c_begin _ _ _ _) ?zzk1 ?zzk2 ?zzk3 ?zzk4 ?zzk5 ?zzkK ?zzkP ?zzkd ?zzku ?_); k_extra "* my sides")
  k_with "* my call" => (k_here; (try dsimp only [List.append_nil]); (with_reducible show wpAny _ _ (call (Value.ref 194) _) _ _ _); k_dflt (refine' RO.use (c_end _ _ _ _) ?zzk1 ?zzk2 ?zzk3 ?zzk4 ?zzk5 ?zzkK ?zzkP ?zzkd ?zzku ?_); k_extra "* my sides")
  k_with "* my call" => (k_here; (try dsimp only [List.append_nil]); (with_reducible show wpAny _ _ (call (Value.ref 201) _) _ _ _); k_dflt (refine' RO.use (c_code_at _ _ _ _ _ _) ?zzk1 ?zzk2 ?zzk3 ?zzk4 ?zzk5 ?zzkK ?zzkP ?zzkd ?zzku ?_); k_extra "* my sides")
  k_with "* my call" => (k_here; (try dsimp only [List.append_nil]); (with_reducible show wpAny _ _ (call (Value.ref 21) _) _ _ _); k_dflt (refine' RO.use (c_line_start _ _ _ _ _ _) ?zzk1 ?zzk2 ?zzk3 ?zzk4 ?zzk5 ?zzkK ?zzkP ?zzkd ?zzku ?_); k_extra "* my sides")
  k_with "* my call" => (k_here; (try dsimp only [List.append_nil]); (with_reducible show wpAny _ _ (call (Value.ref 28) _) _ _ _); k_dflt (refine' RO.use (c_line_end _ _ _ _ _ _) ?zzk1 ?zzk2 ?zzk3 ?zzk4 ?zzk5 ?zzkK ?zzkP ?zzkd ?zzku ?_); k_extra "* my sides")
  k_with "* my call" => (k_here; (try dsimp only [List.append_nil]); (with_reducible show wpAny _ _ (call (Value.ref 35) _) _ _ _); k_dflt (refine' RO.use (c_next_start _ _ _ _ _ _) ?zzk1 ?zzk2 ?zzk3 ?zzk4 ?zzk5 ?zzkK ?zzkP ?zzkd ?zzku ?_); k_extra "* my sides")
  k_with "* my call" => (k_here; (try dsimp only [List.append_nil]); (with_reducible show wpAny _ _ (call (Value.ref 42) _) _ _ _); k_dflt (refine' RO.use (c_is_line_end _ _ _ _ _ _) ?zzk1 ?zzk2 ?zzk3 ?zzk4 ?zzk5 ?zzkK ?zzkP ?zzkd ?zzku ?_); k_extra "* my sides")
  k_with "* my call" => (k_here; (try dsimp only [List.append_nil]); (with_reducible show wpAny _ _ (call (Value.ref 50) _) _ _ _); k_dflt (refine' RO.use (c_parts _ _ _ _ _ _) ?zzk1 ?zzk2 ?zzk3 ?zzk4 ?zzk5 ?zzkK ?zzkP ?zzkd ?zzku ?_); k_extra "* my sides")
  k_with "* my call" => (k_here; (try dsimp only [List.append_nil]); (with_reducible show wpAny _ _ (call (Value.ref 57) _) _ _ _); k_dflt (refine' RO.use (c_begins _ _ _ _ _ _) ?zzk1 ?zzk2 ?zzk3 ?zzk4 ?zzk5 ?zzkK ?zzkP ?zzkd ?zzku ?_); k_extra "* my sides")
  k_with "* my call" => (k_here; (try dsimp only [List.append_nil]); (with_reducible show wpAny _ _ (call (Value.ref 64) _) _ _ _); k_dflt (refine' RO.use (c_line_behind _ _ _ _ _ _) ?zzk1 ?zzk2 ?zzk3 ?zzk4 ?zzk5 ?zzkK ?zzkP ?zzkd ?zzku ?_); k_extra "* my sides")
  k_with "* my call" => (k_here; (try dsimp only [List.append_nil]); (with_reducible show wpAny _ _ (call (Value.ref 71) _) _ _ _); k_dflt (refine' RO.use (c_past_parting _ _ _ _ _ _) ?zzk1 ?zzk2 ?zzk3 ?zzk4 ?zzk5 ?zzkK ?zzkP ?zzkd ?zzku ?_); k_extra "* my sides")
  k_with "* my call" => (k_here; (try dsimp only [List.append_nil]); (with_reducible show wpAny _ _ (call (Value.ref 78) _) _ _ _); k_dflt (refine' RO.use (c_one_forward _ _ _ _ _ _) ?zzk1 ?zzk2 ?zzk3 ?zzk4 ?zzk5 ?zzkK ?zzkP ?zzkd ?zzku ?_); k_extra "* my sides")
  k_with "* my call" => (k_here; (try dsimp only [List.append_nil]); (with_reducible show wpAny _ _ (call (Value.ref 85) _) _ _ _); k_dflt (refine' RO.use (c_is_behind_empty _ _ _ _ _ _) ?zzk1 ?zzk2 ?zzk3 ?zzk4 ?zzk5 ?zzkK ?zzkP ?zzkd ?zzku ?_); k_extra "* my sides")
  k_with "* my call" => (k_here; (try dsimp only [List.append_nil]); (with_reducible show wpAny _ _ (call (Value.ref 92) _) _ _ _); k_dflt (refine' RT.use (c_first_line _ _ _ _ _ _) ?zzk1 ?zzk2 ?zzk3 ?zzk4 ?zzk5 ?zzkK ?zzkP ?zzkd ?zzku ?_); k_extra "* my sides2")
  trivial
-- a call's sides, once a contract is laid on
-- the def is entered
set_option maxRecDepth 100000
set_option maxHeartbeats 8000000
theorem c_line_start (w : World) (x : Addr) (ns : List Int) (pl : Int) (i : Int) (t_i : Tok) : RO w 21 2 [.ref x, .int i t_i] (Vw w x ns pl) (fun t => .int (lineStart ns pl i) t) := by
  unfold RO
  k_fill
  intro mean mg mb dp un gd cn cs a ccd cl outer A₀ base h₀ L m news s Q E B F X N T hk hdp hun V hret
  have V' := V
  obtain ⟨dx, l, t1, t2, t3, vs, k, V1, V2, V3, hI, hlen, hp0, hp1⟩ := V'
  have hvl := IntsAre.length hI
  k_extra "* my enter"
  k_with "exec While BoolOp cons nil" => k_while (fun _ k => lineStart ns pl k = lineStart ns pl i) (fun _ k => (k - pl).toNat) "at"
  k_with "state" => (first | (first | rfl | (rw [← lineStart_go (by omega) (by assumption)]; assumption)) | (fail "state"))
  k_with "measure" => (first | (omega) | (fail "measure"))
  k_steps
  all_goals first
    | (refine' ret_int hret ?e1 ?e2 ?e3 ?e4; (case e1 => k_asm); (case e2 => k_asm); (case e3 => first | exact fun _ hp => hp | kcj_all); (case e4 => (rw [← kInv, lineStart_stop (by omega)])))
    | (fail "an end")
theorem c_line_end (w : World) (x : Addr) (ns : List Int) (pl : Int) (i : Int) (t_i : Tok) : RO w 28 2 [.ref x, .int i t_i] (Vw w x ns pl) (fun t => .int (lineEnd ns pl i) t) := by
  unfold RO
  k_fill
  intro mean mg mb dp un gd cn cs a ccd cl outer A₀ base h₀ L m news s Q E B F X N T hk hdp hun V hret
  have V' := V
  obtain ⟨dx, l, t1, t2, t3, vs, k, V1, V2, V3, hI, hlen, hp0, hp1⟩ := V'
  have hvl := IntsAre.length hI
  k_extra "* my enter"
  k_with "exec While BoolOp cons nil" => k_while (fun _ k => lineEnd ns pl k = lineEnd ns pl i) (fun _ k => (pl + ns.length - k).toNat) "at"
  k_with "state" => (first | (first | rfl | (rw [← lineEnd_go (by omega) (by assumption)]; assumption)) | (fail "state"))
  k_with "measure" => (first | (omega) | (fail "measure"))
  k_steps
  all_goals first
    | (refine' ret_int hret ?e1 ?e2 ?e3 ?e4; (case e1 => k_asm); (case e2 => k_asm); (case e3 => first | exact fun _ hp => hp | kcj_all); (case e4 => (rw [← kInv, lineEnd_stop (by omega)])))
    | (fail "an end")
theorem c_next_start (w : World) (x : Addr) (ns : List Int) (pl : Int) (i : Int) (t_i : Tok) : RO w 35 3 [.ref x, .int i t_i] (Vw w x ns pl) (fun t => .int (nextStart ns pl i) t) := by
  unfold RO
  k_fill
  intro mean mg mb dp un gd cn cs a ccd cl outer A₀ base h₀ L m news s Q E B F X N T hk hdp hun V hret
  have V' := V
  obtain ⟨dx, l, t1, t2, t3, vs, k, V1, V2, V3, hI, hlen, hp0, hp1⟩ := V'
  have hvl := IntsAre.length hI
  k_extra "* my enter"
  k_steps
  all_goals first
    | (refine' ret_int hret ?e1 ?e2 ?e3 ?e4; (case e1 => k_asm); (case e2 => k_asm); (case e3 => first | exact fun _ hp => hp | kcj_all); (case e4 => (unfold nextStart; split <;> first | rfl | omega)))
    | (fail "an end")
theorem c_is_line_end (w : World) (x : Addr) (ns : List Int) (pl : Int) (i : Int) (t_i : Tok) : RO w 42 2 [.ref x, .int i t_i] (Vw w x ns pl) (fun _ => .bool (isLineEnd ns pl i)) := by
  unfold RO
  k_fill
  intro mean mg mb dp un gd cn cs a ccd cl outer A₀ base h₀ L m news s Q E B F X N T hk hdp hun V hret
  have V' := V
  obtain ⟨dx, l, t1, t2, t3, vs, k, V1, V2, V3, hI, hlen, hp0, hp1⟩ := V'
  have hvl := IntsAre.length hI
  k_extra "* my enter"
  k_steps
  all_goals first
    | (refine' ret_bool hret ?e1 ?e2 ?e3 ?e4; (case e1 => k_asm); (case e2 => k_asm); (case e3 => first | exact fun _ hp => hp | kcj_all); (case e4 => (unfold isLineEnd; simp only [int_beq_decide, *]; simp)))
    | (fail "an end")
theorem c_parts (w : World) (x : Addr) (ns : List Int) (pl : Int) (i : Int) (t_i : Tok) : RO w 50 3 [.ref x, .int i t_i] (Vw w x ns pl) (fun _ => .bool (parts ns pl i)) := by
  unfold RO
  k_fill
  intro mean mg mb dp un gd cn cs a ccd cl outer A₀ base h₀ L m news s Q E B F X N T hk hdp hun V hret
  have V' := V
  obtain ⟨dx, l, t1, t2, t3, vs, k, V1, V2, V3, hI, hlen, hp0, hp1⟩ := V'
  have hvl := IntsAre.length hI
  k_extra "* my enter"
  k_with "exec While BoolOp cons nil" => k_while (fun _ k => skipParting ns pl k = skipParting ns pl i) (fun _ k => (pl + ns.length - k).toNat) "at"
  k_with "state" => (first | (first | rfl | (rw [← skipParting_go (by assumption) (by assumption)]; assumption)) | (fail "state"))
  k_with "measure" => (first | (omega) | (fail "measure"))
  k_steps
  all_goals first
    | (refine' ret_bool hret ?e1 ?e2 ?e3 ?e4; (case e1 => k_asm); (case e2 => k_asm); (case e3 => first | exact fun _ hp => hp | kcj_all); (case e4 => (unfold parts; rw [← kInv, skipParting_stop (by simp only [*]; first | omega | simp)])))
    | (fail "an end")
theorem c_begins (w : World) (x : Addr) (ns : List Int) (pl : Int) (i : Int) (t_i : Tok) : RO w 57 4 [.ref x, .int i t_i] (Vw w x ns pl) (fun _ => .bool (begins ns pl i)) := by
  unfold RO
  k_fill
  intro mean mg mb dp un gd cn cs a ccd cl outer A₀ base h₀ L m news s Q E B F X N T hk hdp hun V hret
  have V' := V
  obtain ⟨dx, l, t1, t2, t3, vs, k, V1, V2, V3, hI, hlen, hp0, hp1⟩ := V'
  have hvl := IntsAre.length hI
  k_extra "* my enter"
  k_steps
  all_goals first
    | (refine' ret_bool hret ?e1 ?e2 ?e3 ?e4; (case e1 => k_asm); (case e2 => k_asm); (case e3 => first | exact fun _ hp => hp | kcj_all); (case e4 => (unfold begins; simp only [int_beq_decide, *]; simp)))
    | (fail "an end")
theorem c_line_behind (w : World) (x : Addr) (ns : List Int) (pl : Int) (i : Int) (t_i : Tok) : RO w 64 4 [.ref x, .int i t_i] (Vw w x ns pl) (fun t => .int (lineBehind ns pl i) t) := by
  unfold RO
  k_fill
  intro mean mg mb dp un gd cn cs a ccd cl outer A₀ base h₀ L m news s Q E B F X N T hk hdp hun V hret
  have V' := V
  obtain ⟨dx, l, t1, t2, t3, vs, k, V1, V2, V3, hI, hlen, hp0, hp1⟩ := V'
  have hvl := IntsAre.length hI
  k_extra "* my enter"
  k_steps
  all_goals first
    | (refine' ret_int hret ?e1 ?e2 ?e3 ?e4; (case e1 => k_asm); (case e2 => k_asm); (case e3 => first | exact fun _ hp => hp | kcj_all); (case e4 => (unfold lineBehind; split <;> first | rfl | omega)))
    | (fail "an end")
theorem c_past_parting (w : World) (x : Addr) (ns : List Int) (pl : Int) (i : Int) (t_i : Tok) : RO w 71 5 [.ref x, .int i t_i] (Vw w x ns pl) (fun t => .int (pastParting ns pl i) t) := by
  unfold RO
  k_fill
  intro mean mg mb dp un gd cn cs a ccd cl outer A₀ base h₀ L m news s Q E B F X N T hk hdp hun V hret
  have V' := V
  obtain ⟨dx, l, t1, t2, t3, vs, k, V1, V2, V3, hI, hlen, hp0, hp1⟩ := V'
  have hvl := IntsAre.length hI
  k_extra "* my enter"
  k_with "exec While BoolOp cons nil" => k_while (fun _ k => pastLoop ns pl k = pastLoop ns pl (lineStart ns pl i)) (fun _ k => (pl + ns.length - k).toNat) "at"
  k_with "state" => (first | (first | rfl | (rw [← pastLoop_go (by assumption) (by assumption)]; assumption)) | (fail "state"))
  k_with "measure" => (first | ((have hlt := lineBehind_gt (cs := ns) (pl := pl) (by assumption)); omega) | (fail "measure"))
  k_steps
  all_goals first
    | (refine' ret_int hret ?e1 ?e2 ?e3 ?e4; (case e1 => k_asm); (case e2 => k_asm); (case e3 => first | exact fun _ hp => hp | kcj_all); (case e4 => (unfold pastParting; rw [← kInv, pastLoop_stop (by simp only [*]; first | omega | simp)])))
    | (fail "an end")
theorem c_one_forward (w : World) (x : Addr) (ns : List Int) (pl : Int) (i : Int) (t_i : Tok) : RO w 78 6 [.ref x, .int i t_i] (Vw w x ns pl) (fun t => .int (oneForward ns pl i) t) := by
  unfold RO
  k_fill
  intro mean mg mb dp un gd cn cs a ccd cl outer A₀ base h₀ L m news s Q E B F X N T hk hdp hun V hret
  have V' := V
  obtain ⟨dx, l, t1, t2, t3, vs, k, V1, V2, V3, hI, hlen, hp0, hp1⟩ := V'
  have hvl := IntsAre.length hI
  k_extra "* my enter"
  k_with "exec While BoolOp cons nil" => k_while (fun _ k => fwdLoop ns pl k = fwdLoop ns pl (lineBehind ns pl (pastParting ns pl i))) (fun _ k => (pl + ns.length - k).toNat) "at"
  k_with "state" => (first | (first | rfl | (rw [← fwdLoop_go (by assumption) (by assumption)]; assumption)) | (fail "state"))
  k_with "measure" => (first | ((have hlt := lineBehind_gt (cs := ns) (pl := pl) (by assumption)); omega) | (fail "measure"))
  k_steps
  all_goals first
    | (refine' ret_int hret ?e1 ?e2 ?e3 ?e4; (case e1 => k_asm); (case e2 => k_asm); (case e3 => first | exact fun _ hp => hp | kcj_all); (case e4 => (unfold oneForward; rw [← kInv, fwdLoop_stop (by simp only [*]; first | omega | simp)])))
    | (fail "an end")
theorem c_is_behind_empty (w : World) (x : Addr) (ns : List Int) (pl : Int) (i : Int) (t_i : Tok) : RO w 85 4 [.ref x, .int i t_i] (Vw w x ns pl) (fun _ => .bool (isBehindEmpty ns pl i)) := by
  unfold RO
  k_fill
  intro mean mg mb dp un gd cn cs a ccd cl outer A₀ base h₀ L m news s Q E B F X N T hk hdp hun V hret
  have V' := V
  obtain ⟨dx, l, t1, t2, t3, vs, k, V1, V2, V3, hI, hlen, hp0, hp1⟩ := V'
  have hvl := IntsAre.length hI
  k_extra "* my enter"
  k_steps
  all_goals first
    | (refine' ret_bool hret ?e1 ?e2 ?e3 ?e4; (case e1 => k_asm); (case e2 => k_asm); (case e3 => first | exact fun _ hp => hp | kcj_all); (case e4 => (unfold isBehindEmpty; first | (rw [if_pos (by first | (left; omega) | (right; left; assumption) | (right; right; assumption))]) | (rw [if_neg (by rintro (h1 | h1 | h1) <;> first | omega | exact h1 (by assumption) | (rw [show parts ns pl i = false by assumption] at h1; exact Bool.noConfusion h1))]; exact int_beq_decide _ _))))
    | (fail "an end")
theorem c_first_line (w : World) (x : Addr) (ns : List Int) (pl : Int) (i : Int) (t_i : Tok) : RT w 92 5 [.ref x, .int i t_i] (Vw w x ns pl) (fun t => [.int (firstLine ns pl i) t, .bool (begins ns pl (firstLine ns pl i))]) := by
  unfold RT
  k_fill
  intro mean mg mb dp un gd cn cs a ccd cl outer A₀ base h₀ L m news s Q E B F X N T hk hdp hun V hret
  have V' := V
  obtain ⟨dx, l, t1, t2, t3, vs, k, V1, V2, V3, hI, hlen, hp0, hp1⟩ := V'
  have hvl := IntsAre.length hI
  k_extra "* my enter"
  k_with "exec While BoolOp cons nil" => k_while (fun _ k => firstLine ns pl k = firstLine ns pl i) (fun _ k => (k - pl).toNat) "at"
  k_with "state" => (first | (first | rfl | (rw [← firstLine_go (by assumption) (by assumption)]; assumption)) | (fail "state"))
  k_with "measure" => (first | ((have hlt := lineStart_le ns pl); grind) | (fail "measure"))
  k_steps
  all_goals (refine' ret_tup hret _ ?e1 ?e2 (.head _) (fun p hp => .tail _ hp) ?e4; (case e1 => k_asm); (case e2 => k_asm); (case e4 => first | (rw [← kInv, firstLine_stop (by simp only [*]; first | omega | simp)]) | (rw [← kInv, firstLine_stop (by simp only [*]; first | omega | simp)]; rfl)))
end
section
open PySem PySem.W PyProof.Rows
theorem reset_V3 : True := by
  w_top off
  k_with_none
  k_with "* my sides" => (
  (case zzk1 => k_asm); (case zzk2 => k_asm); (case zzk3 => k_asm); (case zzk4 => k_asm); (case zzk5 => k_asm);
  (case zzkK => first | exact rfl | assumption);
  (case zzkP => first | assumption | exact trivial | (refine Vw.mono (by assumption) ?_; intro p9 hp9; repeat (first | exact hp9 | refine List.Mem.tail _ ?_)));
  (case zzkd => ktr_room); (case zzku => ktr_units);
  intro t9 h9 tk9 F9 N9; (try dsimp only); (try k_fold))
  k_with "* compareOp In int ref" => (k_here; k_dflt (first
  | refine' in_top (t := 43) ?zzF ?zzX ?zzl ?zzi (any_parting _) ?_; (case zzF => k_asm); (case zzX => k_asm); (case zzl => k_is); (case zzi => exact IntsAre.cons _ _ (IntsAre.cons _ _ (IntsAre.cons _ _ IntsAre.nil))); k_whole
  | refine' in_top (t := 114) ?zzF ?zzX ?zzl ?zzi (any_stop _) ?_; (case zzF => k_asm); (case zzX => k_asm); (case zzl => k_is); (case zzi => exact IntsAre.cons _ _ (IntsAre.cons _ _ (IntsAre.cons _ _ IntsAre.nil))); k_whole
  | refine' in_top (t := 115) ?zzF ?zzX ?zzl ?zzi (any_closing _) ?_; (case zzF => k_asm); (case zzX => k_asm); (case zzl => k_is); (case zzi => exact IntsAre.cons _ _ (IntsAre.cons _ _ (IntsAre.cons _ _ (IntsAre.cons _ _ (IntsAre.cons _ _ IntsAre.nil))))); k_whole
  | refine' in_top (t := 116) ?zzF ?zzX ?zzl ?zzi (any_spaces _) ?_; (case zzF => k_asm); (case zzX => k_asm); (case zzl => k_is); (case zzi => exact IntsAre.cons _ _ (IntsAre.cons _ _ (IntsAre.cons _ _ IntsAre.nil))); k_whole
  | refine' in_led ?zzt ?zzi (any_spaces _) ?_; (case zzt => exact News.isTup (by k_asm) (by k_mem)); (case zzi => exact IntsAre.cons _ _ (IntsAre.cons _ _ (IntsAre.cons _ _ IntsAre.nil))); k_whole))
  k_with "* compareOp NotIn int ref" => (k_here; k_dflt (first
  | refine' notin_top (t := 114) ?zzF ?zzX ?zzl ?zzi (any_stop _) ?_; (case zzF => k_asm); (case zzX => k_asm); (case zzl => k_is); (case zzi => exact IntsAre.cons _ _ (IntsAre.cons _ _ (IntsAre.cons _ _ IntsAre.nil))); k_whole
  | refine' notin_top (t := 116) ?zzF ?zzX ?zzl ?zzi (any_spaces _) ?_; (case zzF => k_asm); (case zzX => k_asm); (case zzl => k_is); (case zzi => exact IntsAre.cons _ _ (IntsAre.cons _ _ (IntsAre.cons _ _ IntsAre.nil))); k_whole))
  k_with "* my sides2" => (
  (case zzk1 => k_asm); (case zzk2 => k_asm); (case zzk3 => k_asm); (case zzk4 => k_asm); (case zzk5 => k_asm);
  (case zzkK => first | exact rfl | assumption);
  (case zzkP => first | assumption | exact trivial | (refine Vw.mono (by assumption) ?_; intro p9 hp9; repeat (first | exact hp9 | refine List.Mem.tail _ ?_)));
  (case zzkd => ktr_room); (case zzku => ktr_units);
  intro q9 t9 h9 tk9 F9 N9; (try dsimp only); (try k_fold))
  k_with "* my enter" => (refine wpAny_call ?_; k_dflt cell_enter)
  k_with "* exec While BoolOp cons nil" => k_extra "exec While BoolOp cons nil"
  k_with "* exec While Compare cons nil" => k_extra "exec While Compare cons nil"
  k_with "* exec While Constant cons nil" => k_extra "exec While Constant cons nil"
  k_with "* call ref cons nil" => k_extra "* my call"
  k_with "* call ref nil" => k_extra "* my call"
  k_with "* my call" => (k_here; (try dsimp only [List.append_nil]); (with_reducible show wpAny _ _ (call (Value.ref 187) _) _ _ _); k_dflt (refine' RO.use (c_begin _ _ _ _) ?zzk1 ?zzk2 ?zzk3 ?zzk4 ?zzk5 ?zzkK ?zzkP ?zzkd ?zzku ?_); k_extra "* my sides")
  k_with "* my call" => (k_here; (try dsimp only [List.append_nil]); (with_reducible show wpAny _ _ (call (Value.ref 194) _) _ _ _); k_dflt (refine' RO.use (c_end _ _ _ _) ?zzk1 ?zzk2 ?zzk3 ?zzk4 ?zzk5 ?zzkK ?zzkP ?zzkd ?zzku ?_); k_extra "* my sides")
  k_with "* my call" => (k_here; (try dsimp only [List.append_nil]); (with_reducible show wpAny _ _ (call (Value.ref 201) _) _ _ _); k_dflt (refine' RO.use (c_code_at _ _ _ _ _ _) ?zzk1 ?zzk2 ?zzk3 ?zzk4 ?zzk5 ?zzkK ?zzkP ?zzkd ?zzku ?_); k_extra "* my sides")
  k_with "* my call" => (k_here; (try dsimp only [List.append_nil]); (with_reducible show wpAny _ _ (call (Value.ref 21) _) _ _ _); k_dflt (refine' RO.use (c_line_start _ _ _ _ _ _) ?zzk1 ?zzk2 ?zzk3 ?zzk4 ?zzk5 ?zzkK ?zzkP ?zzkd ?zzku ?_); k_extra "* my sides")
  k_with "* my call" => (k_here; (try dsimp only [List.append_nil]); (with_reducible show wpAny _ _ (call (Value.ref 28) _) _ _ _); k_dflt (refine' RO.use (c_line_end _ _ _ _ _ _) ?zzk1 ?zzk2 ?zzk3 ?zzk4 ?zzk5 ?zzkK ?zzkP ?zzkd ?zzku ?_); k_extra "* my sides")
  k_with "* my call" => (k_here; (try dsimp only [List.append_nil]); (with_reducible show wpAny _ _ (call (Value.ref 35) _) _ _ _); k_dflt (refine' RO.use (c_next_start _ _ _ _ _ _) ?zzk1 ?zzk2 ?zzk3 ?zzk4 ?zzk5 ?zzkK ?zzkP ?zzkd ?zzku ?_); k_extra "* my sides")
  k_with "* my call" => (k_here; (try dsimp only [List.append_nil]); (with_reducible show wpAny _ _ (call (Value.ref 42) _) _ _ _); k_dflt (refine' RO.use (c_is_line_end _ _ _ _ _ _) ?zzk1 ?zzk2 ?zzk3 ?zzk4 ?zzk5 ?zzkK ?zzkP ?zzkd ?zzku ?_); k_extra "* my sides")
  k_with "* my call" => (k_here; (try dsimp only [List.append_nil]); (with_reducible show wpAny _ _ (call (Value.ref 50) _) _ _ _); k_dflt (refine' RO.use (c_parts _ _ _ _ _ _) ?zzk1 ?zzk2 ?zzk3 ?zzk4 ?zzk5 ?zzkK ?zzkP ?zzkd ?zzku ?_); k_extra "* my sides")
  k_with "* my call" => (k_here; (try dsimp only [List.append_nil]); (with_reducible show wpAny _ _ (call (Value.ref 57) _) _ _ _); k_dflt (refine' RO.use (c_begins _ _ _ _ _ _) ?zzk1 ?zzk2 ?zzk3 ?zzk4 ?zzk5 ?zzkK ?zzkP ?zzkd ?zzku ?_); k_extra "* my sides")
  k_with "* my call" => (k_here; (try dsimp only [List.append_nil]); (with_reducible show wpAny _ _ (call (Value.ref 64) _) _ _ _); k_dflt (refine' RO.use (c_line_behind _ _ _ _ _ _) ?zzk1 ?zzk2 ?zzk3 ?zzk4 ?zzk5 ?zzkK ?zzkP ?zzkd ?zzku ?_); k_extra "* my sides")
  k_with "* my call" => (k_here; (try dsimp only [List.append_nil]); (with_reducible show wpAny _ _ (call (Value.ref 71) _) _ _ _); k_dflt (refine' RO.use (c_past_parting _ _ _ _ _ _) ?zzk1 ?zzk2 ?zzk3 ?zzk4 ?zzk5 ?zzkK ?zzkP ?zzkd ?zzku ?_); k_extra "* my sides")
  k_with "* my call" => (k_here; (try dsimp only [List.append_nil]); (with_reducible show wpAny _ _ (call (Value.ref 78) _) _ _ _); k_dflt (refine' RO.use (c_one_forward _ _ _ _ _ _) ?zzk1 ?zzk2 ?zzk3 ?zzk4 ?zzk5 ?zzkK ?zzkP ?zzkd ?zzku ?_); k_extra "* my sides")
  k_with "* my call" => (k_here; (try dsimp only [List.append_nil]); (with_reducible show wpAny _ _ (call (Value.ref 85) _) _ _ _); k_dflt (refine' RO.use (c_is_behind_empty _ _ _ _ _ _) ?zzk1 ?zzk2 ?zzk3 ?zzk4 ?zzk5 ?zzkK ?zzkP ?zzkd ?zzku ?_); k_extra "* my sides")
  k_with "* my call" => (k_here; (try dsimp only [List.append_nil]); (with_reducible show wpAny _ _ (call (Value.ref 92) _) _ _ _); k_dflt (refine' RT.use (c_first_line _ _ _ _ _ _) ?zzk1 ?zzk2 ?zzk3 ?zzk4 ?zzk5 ?zzkK ?zzkP ?zzkd ?zzku ?_); k_extra "* my sides2")
  k_with "* my call" => (k_here; (try dsimp only [List.append_nil]); (with_reducible show wpAny _ _ (call (Value.ref 99) _) _ _ _); k_dflt (refine' RO.use (c_one_backward _ _ _ _ _ _) ?zzk1 ?zzk2 ?zzk3 ?zzk4 ?zzk5 ?zzkK ?zzkP ?zzkd ?zzku ?_); k_extra "* my sides")
  trivial
-- a call's sides, once a contract is laid on
-- the def is entered
set_option maxRecDepth 100000
set_option maxHeartbeats 8000000
theorem c_one_backward (w : World) (x : Addr) (ns : List Int) (pl : Int) (i : Int) (t_i : Tok) : RO w 99 6 [.ref x, .int i t_i] (Vw w x ns pl) (fun t => .int (oneBackward ns pl i) t) := by
  unfold RO
  k_fill
  intro mean mg mb dp un gd cn cs a ccd cl outer A₀ base h₀ L m news s Q E B F X N T hk hdp hun V hret
  have V' := V
  obtain ⟨dx, l, t1, t2, t3, vs, k, V1, V2, V3, hI, hlen, hp0, hp1⟩ := V'
  have hvl := IntsAre.length hI
  k_extra "* my enter"
  k_with "exec While BoolOp cons nil" => k_while (fun _ k => backParts ns pl k = backParts ns pl (lineStart ns pl (i - 1))) (fun _ k => (k - pl).toNat) "at"
  k_with "state" => (first | (first | rfl | (rw [← backParts_go (by assumption) (by assumption)]; assumption)) | (fail "state"))
  k_with "measure" => (first | ((have hlt := lineStart_le ns pl); grind) | (fail "measure"))
  k_steps
  all_goals first
    | (refine' ret_int hret ?e1 ?e2 ?e3 ?e4; (case e1 => k_asm); (case e2 => k_asm); (case e3 => first | exact fun _ hp => hp | kcj_all); (case e4 => (first
    | exact ob_empty (.inl (by assumption))
    | exact ob_empty (.inr (by assumption))
    | exact ob_begin (by assumption) (by assumption) (kInv.symm.trans (backParts_stop (by simp only [*]; first | omega | simp))) (by assumption)
    | exact ob_nf (by assumption) (by assumption) (kInv.symm.trans (backParts_stop (by simp only [*]; first | omega | simp))) (by assumption) (by assumption)
    | exact ob_last (by assumption) (by assumption) (kInv.symm.trans (backParts_stop (by simp only [*]; first | omega | simp))) (by assumption) (by assumption) (by assumption) (by assumption)
    | exact ob_else (by assumption) (by assumption) (kInv.symm.trans (backParts_stop (by simp only [*]; first | omega | simp))) (by assumption) (by assumption) (by omega))))
    | (fail "an end")
end
section
open PySem PySem.W PyProof.Rows
theorem reset_V4 : True := by
  w_top off
  k_with_none
  k_with "* my sides" => (
  (case zzk1 => k_asm); (case zzk2 => k_asm); (case zzk3 => k_asm); (case zzk4 => k_asm); (case zzk5 => k_asm);
  (case zzkK => first | exact rfl | assumption);
  (case zzkP => first | assumption | exact trivial | (refine Vw.mono (by assumption) ?_; intro p9 hp9; repeat (first | exact hp9 | refine List.Mem.tail _ ?_)));
  (case zzkd => ktr_room); (case zzku => ktr_units);
  intro t9 h9 tk9 F9 N9; (try dsimp only); (try k_fold))
  k_with "* compareOp In int ref" => (k_here; k_dflt (first
  | refine' in_top (t := 43) ?zzF ?zzX ?zzl ?zzi (any_parting _) ?_; (case zzF => k_asm); (case zzX => k_asm); (case zzl => k_is); (case zzi => exact IntsAre.cons _ _ (IntsAre.cons _ _ (IntsAre.cons _ _ IntsAre.nil))); k_whole
  | refine' in_top (t := 114) ?zzF ?zzX ?zzl ?zzi (any_stop _) ?_; (case zzF => k_asm); (case zzX => k_asm); (case zzl => k_is); (case zzi => exact IntsAre.cons _ _ (IntsAre.cons _ _ (IntsAre.cons _ _ IntsAre.nil))); k_whole
  | refine' in_top (t := 115) ?zzF ?zzX ?zzl ?zzi (any_closing _) ?_; (case zzF => k_asm); (case zzX => k_asm); (case zzl => k_is); (case zzi => exact IntsAre.cons _ _ (IntsAre.cons _ _ (IntsAre.cons _ _ (IntsAre.cons _ _ (IntsAre.cons _ _ IntsAre.nil))))); k_whole
  | refine' in_top (t := 116) ?zzF ?zzX ?zzl ?zzi (any_spaces _) ?_; (case zzF => k_asm); (case zzX => k_asm); (case zzl => k_is); (case zzi => exact IntsAre.cons _ _ (IntsAre.cons _ _ (IntsAre.cons _ _ IntsAre.nil))); k_whole
  | refine' in_led ?zzt ?zzi (any_spaces _) ?_; (case zzt => exact News.isTup (by k_asm) (by k_mem)); (case zzi => exact IntsAre.cons _ _ (IntsAre.cons _ _ (IntsAre.cons _ _ IntsAre.nil))); k_whole))
  k_with "* compareOp NotIn int ref" => (k_here; k_dflt (first
  | refine' notin_top (t := 114) ?zzF ?zzX ?zzl ?zzi (any_stop _) ?_; (case zzF => k_asm); (case zzX => k_asm); (case zzl => k_is); (case zzi => exact IntsAre.cons _ _ (IntsAre.cons _ _ (IntsAre.cons _ _ IntsAre.nil))); k_whole
  | refine' notin_top (t := 116) ?zzF ?zzX ?zzl ?zzi (any_spaces _) ?_; (case zzF => k_asm); (case zzX => k_asm); (case zzl => k_is); (case zzi => exact IntsAre.cons _ _ (IntsAre.cons _ _ (IntsAre.cons _ _ IntsAre.nil))); k_whole))
  k_with "* my sides2" => (
  (case zzk1 => k_asm); (case zzk2 => k_asm); (case zzk3 => k_asm); (case zzk4 => k_asm); (case zzk5 => k_asm);
  (case zzkK => first | exact rfl | assumption);
  (case zzkP => first | assumption | exact trivial | (refine Vw.mono (by assumption) ?_; intro p9 hp9; repeat (first | exact hp9 | refine List.Mem.tail _ ?_)));
  (case zzkd => ktr_room); (case zzku => ktr_units);
  intro q9 t9 h9 tk9 F9 N9; (try dsimp only); (try k_fold))
  k_with "* my enter" => (refine wpAny_call ?_; k_dflt cell_enter)
  k_with "* exec While BoolOp cons nil" => k_extra "exec While BoolOp cons nil"
  k_with "* exec While Compare cons nil" => k_extra "exec While Compare cons nil"
  k_with "* exec While Constant cons nil" => k_extra "exec While Constant cons nil"
  k_with "* call ref cons nil" => k_extra "* my call"
  k_with "* call ref nil" => k_extra "* my call"
  k_with "* my call" => (k_here; (try dsimp only [List.append_nil]); (with_reducible show wpAny _ _ (call (Value.ref 187) _) _ _ _); k_dflt (refine' RO.use (c_begin _ _ _ _) ?zzk1 ?zzk2 ?zzk3 ?zzk4 ?zzk5 ?zzkK ?zzkP ?zzkd ?zzku ?_); k_extra "* my sides")
  k_with "* my call" => (k_here; (try dsimp only [List.append_nil]); (with_reducible show wpAny _ _ (call (Value.ref 194) _) _ _ _); k_dflt (refine' RO.use (c_end _ _ _ _) ?zzk1 ?zzk2 ?zzk3 ?zzk4 ?zzk5 ?zzkK ?zzkP ?zzkd ?zzku ?_); k_extra "* my sides")
  k_with "* my call" => (k_here; (try dsimp only [List.append_nil]); (with_reducible show wpAny _ _ (call (Value.ref 201) _) _ _ _); k_dflt (refine' RO.use (c_code_at _ _ _ _ _ _) ?zzk1 ?zzk2 ?zzk3 ?zzk4 ?zzk5 ?zzkK ?zzkP ?zzkd ?zzku ?_); k_extra "* my sides")
  k_with "* my call" => (k_here; (try dsimp only [List.append_nil]); (with_reducible show wpAny _ _ (call (Value.ref 21) _) _ _ _); k_dflt (refine' RO.use (c_line_start _ _ _ _ _ _) ?zzk1 ?zzk2 ?zzk3 ?zzk4 ?zzk5 ?zzkK ?zzkP ?zzkd ?zzku ?_); k_extra "* my sides")
  k_with "* my call" => (k_here; (try dsimp only [List.append_nil]); (with_reducible show wpAny _ _ (call (Value.ref 28) _) _ _ _); k_dflt (refine' RO.use (c_line_end _ _ _ _ _ _) ?zzk1 ?zzk2 ?zzk3 ?zzk4 ?zzk5 ?zzkK ?zzkP ?zzkd ?zzku ?_); k_extra "* my sides")
  k_with "* my call" => (k_here; (try dsimp only [List.append_nil]); (with_reducible show wpAny _ _ (call (Value.ref 35) _) _ _ _); k_dflt (refine' RO.use (c_next_start _ _ _ _ _ _) ?zzk1 ?zzk2 ?zzk3 ?zzk4 ?zzk5 ?zzkK ?zzkP ?zzkd ?zzku ?_); k_extra "* my sides")
  k_with "* my call" => (k_here; (try dsimp only [List.append_nil]); (with_reducible show wpAny _ _ (call (Value.ref 42) _) _ _ _); k_dflt (refine' RO.use (c_is_line_end _ _ _ _ _ _) ?zzk1 ?zzk2 ?zzk3 ?zzk4 ?zzk5 ?zzkK ?zzkP ?zzkd ?zzku ?_); k_extra "* my sides")
  k_with "* my call" => (k_here; (try dsimp only [List.append_nil]); (with_reducible show wpAny _ _ (call (Value.ref 50) _) _ _ _); k_dflt (refine' RO.use (c_parts _ _ _ _ _ _) ?zzk1 ?zzk2 ?zzk3 ?zzk4 ?zzk5 ?zzkK ?zzkP ?zzkd ?zzku ?_); k_extra "* my sides")
  k_with "* my call" => (k_here; (try dsimp only [List.append_nil]); (with_reducible show wpAny _ _ (call (Value.ref 57) _) _ _ _); k_dflt (refine' RO.use (c_begins _ _ _ _ _ _) ?zzk1 ?zzk2 ?zzk3 ?zzk4 ?zzk5 ?zzkK ?zzkP ?zzkd ?zzku ?_); k_extra "* my sides")
  k_with "* my call" => (k_here; (try dsimp only [List.append_nil]); (with_reducible show wpAny _ _ (call (Value.ref 64) _) _ _ _); k_dflt (refine' RO.use (c_line_behind _ _ _ _ _ _) ?zzk1 ?zzk2 ?zzk3 ?zzk4 ?zzk5 ?zzkK ?zzkP ?zzkd ?zzku ?_); k_extra "* my sides")
  k_with "* my call" => (k_here; (try dsimp only [List.append_nil]); (with_reducible show wpAny _ _ (call (Value.ref 71) _) _ _ _); k_dflt (refine' RO.use (c_past_parting _ _ _ _ _ _) ?zzk1 ?zzk2 ?zzk3 ?zzk4 ?zzk5 ?zzkK ?zzkP ?zzkd ?zzku ?_); k_extra "* my sides")
  k_with "* my call" => (k_here; (try dsimp only [List.append_nil]); (with_reducible show wpAny _ _ (call (Value.ref 78) _) _ _ _); k_dflt (refine' RO.use (c_one_forward _ _ _ _ _ _) ?zzk1 ?zzk2 ?zzk3 ?zzk4 ?zzk5 ?zzkK ?zzkP ?zzkd ?zzku ?_); k_extra "* my sides")
  k_with "* my call" => (k_here; (try dsimp only [List.append_nil]); (with_reducible show wpAny _ _ (call (Value.ref 85) _) _ _ _); k_dflt (refine' RO.use (c_is_behind_empty _ _ _ _ _ _) ?zzk1 ?zzk2 ?zzk3 ?zzk4 ?zzk5 ?zzkK ?zzkP ?zzkd ?zzku ?_); k_extra "* my sides")
  k_with "* my call" => (k_here; (try dsimp only [List.append_nil]); (with_reducible show wpAny _ _ (call (Value.ref 92) _) _ _ _); k_dflt (refine' RT.use (c_first_line _ _ _ _ _ _) ?zzk1 ?zzk2 ?zzk3 ?zzk4 ?zzk5 ?zzkK ?zzkP ?zzkd ?zzku ?_); k_extra "* my sides2")
  k_with "* my call" => (k_here; (try dsimp only [List.append_nil]); (with_reducible show wpAny _ _ (call (Value.ref 99) _) _ _ _); k_dflt (refine' RO.use (c_one_backward _ _ _ _ _ _) ?zzk1 ?zzk2 ?zzk3 ?zzk4 ?zzk5 ?zzkK ?zzkP ?zzkd ?zzku ?_); k_extra "* my sides")
  k_with "* my call" => (k_here; (try dsimp only [List.append_nil]); (with_reducible show wpAny _ _ (call (Value.ref 123) _) _ _ _); k_dflt (refine' RO.use (c_closed_at _ _ _ _ _ _) ?zzk1 ?zzk2 ?zzk3 ?zzk4 ?zzk5 ?zzkK ?zzkP ?zzkd ?zzku ?_); k_extra "* my sides")
  k_with "* my call" => (k_here; (try dsimp only [List.append_nil]); (with_reducible show wpAny _ _ (call (Value.ref 130) _) _ _ _); k_dflt (refine' RO.use (c_gap_behind _ _ _ _ _ _) ?zzk1 ?zzk2 ?zzk3 ?zzk4 ?zzk5 ?zzkK ?zzkP ?zzkd ?zzku ?_); k_extra "* my sides")
  k_with "* my call" => (k_here; (try dsimp only [List.append_nil]); (with_reducible show wpAny _ _ (call (Value.ref 137) _) _ _ _); k_dflt (refine' RO.use (c_end_match _ _ _ _ _ _ _ _) ?zzk1 ?zzk2 ?zzk3 ?zzk4 ?zzk5 ?zzkK ?zzkP ?zzkd ?zzku ?_); k_extra "* my sides")
  k_with "* my call" => (k_here; (try dsimp only [List.append_nil]); (with_reducible show wpAny _ _ (call (Value.ref 144) _) _ _ _); k_dflt (refine' RO.use (c_spaces_begin _ _ _ _ _ _ _ _) ?zzk1 ?zzk2 ?zzk3 ?zzk4 ?zzk5 ?zzkK ?zzkP ?zzkd ?zzku ?_); k_extra "* my sides")
  trivial
-- a call's sides, once a contract is laid on
-- the def is entered
set_option maxRecDepth 100000
set_option maxHeartbeats 8000000
theorem c_closed_at (w : World) (x : Addr) (ns : List Int) (pl : Int) (i : Int) (t_i : Tok) : RO w 123 2 [.ref x, .int i t_i] (Vw w x ns pl) (fun t => .int (closedAt ns pl i) t) := by
  unfold RO
  k_fill
  intro mean mg mb dp un gd cn cs a ccd cl outer A₀ base h₀ L m news s Q E B F X N T hk hdp hun V hret
  have V' := V
  obtain ⟨dx, l, t1, t2, t3, vs, k, V1, V2, V3, hI, hlen, hp0, hp1⟩ := V'
  have hvl := IntsAre.length hI
  k_extra "* my enter"
  k_with "exec While Compare cons nil" => k_while (fun _ k => skipClosing ns pl k = skipClosing ns pl (i + 1)) (fun _ k => (pl + ns.length - k).toNat) "at"
  k_with "state" => (first | (first | rfl | (rw [← skipClosing_go (by assumption)]; assumption)) | (fail "state"))
  k_with "measure" => (first | ((have hlt := closing_lt (cs := ns) (pl := pl) (by assumption)); omega) | (fail "measure"))
  k_steps
  all_goals first
    | (refine' ret_int hret ?e1 ?e2 ?e3 ?e4; (case e1 => k_asm); (case e2 => k_asm); (case e3 => first | exact fun _ hp => hp | kcj_all); (case e4 => (first | exact closedAt_none (by assumption) | exact closedAt_some (by assumption) kInv (by assumption))))
    | (fail "an end")
theorem c_gap_behind (w : World) (x : Addr) (ns : List Int) (pl : Int) (i : Int) (t_i : Tok) : RO w 130 3 [.ref x, .int i t_i] (Vw w x ns pl) (fun t => .int (gapBehind ns pl i) t) := by
  unfold RO
  k_fill
  intro mean mg mb dp un gd cn cs a ccd cl outer A₀ base h₀ L m news s Q E B F X N T hk hdp hun V hret
  have V' := V
  obtain ⟨dx, l, t1, t2, t3, vs, k, V1, V2, V3, hI, hlen, hp0, hp1⟩ := V'
  have hvl := IntsAre.length hI
  k_extra "* my enter"
  k_steps
  all_goals first
    | (refine' ret_int hret ?e1 ?e2 ?e3 ?e4; (case e1 => k_asm); (case e2 => k_asm); (case e3 => first | exact fun _ hp => hp | kcj_all); (case e4 => (unfold gapBehind; simp only [*]; (try simp); (try omega))))
    | (fail "an end")
theorem c_end_match (w : World) (x : Addr) (ns : List Int) (pl : Int) (i : Int) (t_i : Tok) (lim : Int) (t_lim : Tok) : RO w 137 4 [.ref x, .int i t_i, .int lim t_lim] (Vw w x ns pl) (fun t => .int (endMatch ns pl i lim) t) := by
  unfold RO
  k_fill
  intro mean mg mb dp un gd cn cs a ccd cl outer A₀ base h₀ L m news s Q E B F X N T hk hdp hun V hret
  have V' := V
  obtain ⟨dx, l, t1, t2, t3, vs, k, V1, V2, V3, hI, hlen, hp0, hp1⟩ := V'
  have hvl := IntsAre.length hI
  k_extra "* my enter"
  k_with "exec While BoolOp cons nil" => k_while (fun _ k => spacesTo ns pl k lim = spacesTo ns pl (gapOf ns pl i) lim) (fun _ k => (lim - k).toNat) "at"
  k_with "state" => (first | (first | (rw [gapOf_eq (by assumption)]; done) | (rw [← spacesTo_go (by assumption) (by assumption)]; assumption)) | (fail "state"))
  k_with "measure" => (first | (omega) | (fail "measure"))
  k_steps
  all_goals first
    | (refine' ret_int hret ?e1 ?e2 ?e3 ?e4; (case e1 => k_asm); (case e2 => k_asm); (case e3 => first | exact fun _ hp => hp | kcj_all); (case e4 => (first
    | exact endMatch_none1 (by assumption)
    | exact endMatch_none2 (by assumption) (.inl (by assumption))
    | exact endMatch_none2 (by assumption) (.inr (by assumption))
    | exact endMatch_some (by assumption) (by assumption) (by assumption) kInv (by simp only [*]; first | omega | simp))))
    | (fail "an end")
theorem c_spaces_begin (w : World) (x : Addr) (ns : List Int) (pl : Int) (i : Int) (t_i : Tok) (f : Int) (t_f : Tok) : RO w 144 2 [.ref x, .int i t_i, .int f t_f] (Vw w x ns pl) (fun t => .int (spacesBegin ns pl i f) t) := by
  unfold RO
  k_fill
  intro mean mg mb dp un gd cn cs a ccd cl outer A₀ base h₀ L m news s Q E B F X N T hk hdp hun V hret
  have V' := V
  obtain ⟨dx, l, t1, t2, t3, vs, k, V1, V2, V3, hI, hlen, hp0, hp1⟩ := V'
  have hvl := IntsAre.length hI
  k_extra "* my enter"
  k_with "exec While BoolOp cons nil" => k_while (fun _ k => spacesBegin ns pl k f = spacesBegin ns pl i f) (fun _ k => (k - f).toNat) "at"
  k_with "state" => (first | (first | rfl | (rw [← spacesBegin_go (by assumption) (by assumption)]; assumption)) | (fail "state"))
  k_with "measure" => (first | (omega) | (fail "measure"))
  k_steps
  all_goals first
    | (refine' ret_int hret ?e1 ?e2 ?e3 ?e4; (case e1 => k_asm); (case e2 => k_asm); (case e3 => first | exact fun _ hp => hp | kcj_all); (case e4 => (rw [← kInv, spacesBegin_stop (by simp only [*]; first | omega | simp)])))
    | (fail "an end")
end
section
open PySem PySem.W PyProof.Rows
theorem reset_V5 : True := by
  w_top off
  k_with_none
  k_with "* my sides" => (
  (case zzk1 => k_asm); (case zzk2 => k_asm); (case zzk3 => k_asm); (case zzk4 => k_asm); (case zzk5 => k_asm);
  (case zzkK => first | exact rfl | assumption);
  (case zzkP => first | assumption | exact trivial | (refine Vw.mono (by assumption) ?_; intro p9 hp9; repeat (first | exact hp9 | refine List.Mem.tail _ ?_)));
  (case zzkd => ktr_room); (case zzku => ktr_units);
  intro t9 h9 tk9 F9 N9; (try dsimp only); (try k_fold))
  k_with "* compareOp In int ref" => (k_here; k_dflt (first
  | refine' in_top (t := 43) ?zzF ?zzX ?zzl ?zzi (any_parting _) ?_; (case zzF => k_asm); (case zzX => k_asm); (case zzl => k_is); (case zzi => exact IntsAre.cons _ _ (IntsAre.cons _ _ (IntsAre.cons _ _ IntsAre.nil))); k_whole
  | refine' in_top (t := 114) ?zzF ?zzX ?zzl ?zzi (any_stop _) ?_; (case zzF => k_asm); (case zzX => k_asm); (case zzl => k_is); (case zzi => exact IntsAre.cons _ _ (IntsAre.cons _ _ (IntsAre.cons _ _ IntsAre.nil))); k_whole
  | refine' in_top (t := 115) ?zzF ?zzX ?zzl ?zzi (any_closing _) ?_; (case zzF => k_asm); (case zzX => k_asm); (case zzl => k_is); (case zzi => exact IntsAre.cons _ _ (IntsAre.cons _ _ (IntsAre.cons _ _ (IntsAre.cons _ _ (IntsAre.cons _ _ IntsAre.nil))))); k_whole
  | refine' in_top (t := 116) ?zzF ?zzX ?zzl ?zzi (any_spaces _) ?_; (case zzF => k_asm); (case zzX => k_asm); (case zzl => k_is); (case zzi => exact IntsAre.cons _ _ (IntsAre.cons _ _ (IntsAre.cons _ _ IntsAre.nil))); k_whole
  | refine' in_led ?zzt ?zzi (any_spaces _) ?_; (case zzt => exact News.isTup (by k_asm) (by k_mem)); (case zzi => exact IntsAre.cons _ _ (IntsAre.cons _ _ (IntsAre.cons _ _ IntsAre.nil))); k_whole))
  k_with "* compareOp NotIn int ref" => (k_here; k_dflt (first
  | refine' notin_top (t := 114) ?zzF ?zzX ?zzl ?zzi (any_stop _) ?_; (case zzF => k_asm); (case zzX => k_asm); (case zzl => k_is); (case zzi => exact IntsAre.cons _ _ (IntsAre.cons _ _ (IntsAre.cons _ _ IntsAre.nil))); k_whole
  | refine' notin_top (t := 116) ?zzF ?zzX ?zzl ?zzi (any_spaces _) ?_; (case zzF => k_asm); (case zzX => k_asm); (case zzl => k_is); (case zzi => exact IntsAre.cons _ _ (IntsAre.cons _ _ (IntsAre.cons _ _ IntsAre.nil))); k_whole))
  k_with "* my sides2" => (
  (case zzk1 => k_asm); (case zzk2 => k_asm); (case zzk3 => k_asm); (case zzk4 => k_asm); (case zzk5 => k_asm);
  (case zzkK => first | exact rfl | assumption);
  (case zzkP => first | assumption | exact trivial | (refine Vw.mono (by assumption) ?_; intro p9 hp9; repeat (first | exact hp9 | refine List.Mem.tail _ ?_)));
  (case zzkd => ktr_room); (case zzku => ktr_units);
  intro q9 t9 h9 tk9 F9 N9; (try dsimp only); (try k_fold))
  k_with "* my enter" => (refine wpAny_call ?_; k_dflt cell_enter)
  k_with "* exec While BoolOp cons nil" => k_extra "exec While BoolOp cons nil"
  k_with "* exec While Compare cons nil" => k_extra "exec While Compare cons nil"
  k_with "* exec While Constant cons nil" => k_extra "exec While Constant cons nil"
  k_with "* call ref cons nil" => k_extra "* my call"
  k_with "* call ref nil" => k_extra "* my call"
  k_with "* my call" => (k_here; (try dsimp only [List.append_nil]); (with_reducible show wpAny _ _ (call (Value.ref 187) _) _ _ _); k_dflt (refine' RO.use (c_begin _ _ _ _) ?zzk1 ?zzk2 ?zzk3 ?zzk4 ?zzk5 ?zzkK ?zzkP ?zzkd ?zzku ?_); k_extra "* my sides")
  k_with "* my call" => (k_here; (try dsimp only [List.append_nil]); (with_reducible show wpAny _ _ (call (Value.ref 194) _) _ _ _); k_dflt (refine' RO.use (c_end _ _ _ _) ?zzk1 ?zzk2 ?zzk3 ?zzk4 ?zzk5 ?zzkK ?zzkP ?zzkd ?zzku ?_); k_extra "* my sides")
  k_with "* my call" => (k_here; (try dsimp only [List.append_nil]); (with_reducible show wpAny _ _ (call (Value.ref 201) _) _ _ _); k_dflt (refine' RO.use (c_code_at _ _ _ _ _ _) ?zzk1 ?zzk2 ?zzk3 ?zzk4 ?zzk5 ?zzkK ?zzkP ?zzkd ?zzku ?_); k_extra "* my sides")
  k_with "* my call" => (k_here; (try dsimp only [List.append_nil]); (with_reducible show wpAny _ _ (call (Value.ref 21) _) _ _ _); k_dflt (refine' RO.use (c_line_start _ _ _ _ _ _) ?zzk1 ?zzk2 ?zzk3 ?zzk4 ?zzk5 ?zzkK ?zzkP ?zzkd ?zzku ?_); k_extra "* my sides")
  k_with "* my call" => (k_here; (try dsimp only [List.append_nil]); (with_reducible show wpAny _ _ (call (Value.ref 28) _) _ _ _); k_dflt (refine' RO.use (c_line_end _ _ _ _ _ _) ?zzk1 ?zzk2 ?zzk3 ?zzk4 ?zzk5 ?zzkK ?zzkP ?zzkd ?zzku ?_); k_extra "* my sides")
  k_with "* my call" => (k_here; (try dsimp only [List.append_nil]); (with_reducible show wpAny _ _ (call (Value.ref 35) _) _ _ _); k_dflt (refine' RO.use (c_next_start _ _ _ _ _ _) ?zzk1 ?zzk2 ?zzk3 ?zzk4 ?zzk5 ?zzkK ?zzkP ?zzkd ?zzku ?_); k_extra "* my sides")
  k_with "* my call" => (k_here; (try dsimp only [List.append_nil]); (with_reducible show wpAny _ _ (call (Value.ref 42) _) _ _ _); k_dflt (refine' RO.use (c_is_line_end _ _ _ _ _ _) ?zzk1 ?zzk2 ?zzk3 ?zzk4 ?zzk5 ?zzkK ?zzkP ?zzkd ?zzku ?_); k_extra "* my sides")
  k_with "* my call" => (k_here; (try dsimp only [List.append_nil]); (with_reducible show wpAny _ _ (call (Value.ref 50) _) _ _ _); k_dflt (refine' RO.use (c_parts _ _ _ _ _ _) ?zzk1 ?zzk2 ?zzk3 ?zzk4 ?zzk5 ?zzkK ?zzkP ?zzkd ?zzku ?_); k_extra "* my sides")
  k_with "* my call" => (k_here; (try dsimp only [List.append_nil]); (with_reducible show wpAny _ _ (call (Value.ref 57) _) _ _ _); k_dflt (refine' RO.use (c_begins _ _ _ _ _ _) ?zzk1 ?zzk2 ?zzk3 ?zzk4 ?zzk5 ?zzkK ?zzkP ?zzkd ?zzku ?_); k_extra "* my sides")
  k_with "* my call" => (k_here; (try dsimp only [List.append_nil]); (with_reducible show wpAny _ _ (call (Value.ref 64) _) _ _ _); k_dflt (refine' RO.use (c_line_behind _ _ _ _ _ _) ?zzk1 ?zzk2 ?zzk3 ?zzk4 ?zzk5 ?zzkK ?zzkP ?zzkd ?zzku ?_); k_extra "* my sides")
  k_with "* my call" => (k_here; (try dsimp only [List.append_nil]); (with_reducible show wpAny _ _ (call (Value.ref 71) _) _ _ _); k_dflt (refine' RO.use (c_past_parting _ _ _ _ _ _) ?zzk1 ?zzk2 ?zzk3 ?zzk4 ?zzk5 ?zzkK ?zzkP ?zzkd ?zzku ?_); k_extra "* my sides")
  k_with "* my call" => (k_here; (try dsimp only [List.append_nil]); (with_reducible show wpAny _ _ (call (Value.ref 78) _) _ _ _); k_dflt (refine' RO.use (c_one_forward _ _ _ _ _ _) ?zzk1 ?zzk2 ?zzk3 ?zzk4 ?zzk5 ?zzkK ?zzkP ?zzkd ?zzku ?_); k_extra "* my sides")
  k_with "* my call" => (k_here; (try dsimp only [List.append_nil]); (with_reducible show wpAny _ _ (call (Value.ref 85) _) _ _ _); k_dflt (refine' RO.use (c_is_behind_empty _ _ _ _ _ _) ?zzk1 ?zzk2 ?zzk3 ?zzk4 ?zzk5 ?zzkK ?zzkP ?zzkd ?zzku ?_); k_extra "* my sides")
  k_with "* my call" => (k_here; (try dsimp only [List.append_nil]); (with_reducible show wpAny _ _ (call (Value.ref 92) _) _ _ _); k_dflt (refine' RT.use (c_first_line _ _ _ _ _ _) ?zzk1 ?zzk2 ?zzk3 ?zzk4 ?zzk5 ?zzkK ?zzkP ?zzkd ?zzku ?_); k_extra "* my sides2")
  k_with "* my call" => (k_here; (try dsimp only [List.append_nil]); (with_reducible show wpAny _ _ (call (Value.ref 99) _) _ _ _); k_dflt (refine' RO.use (c_one_backward _ _ _ _ _ _) ?zzk1 ?zzk2 ?zzk3 ?zzk4 ?zzk5 ?zzkK ?zzkP ?zzkd ?zzku ?_); k_extra "* my sides")
  k_with "* my call" => (k_here; (try dsimp only [List.append_nil]); (with_reducible show wpAny _ _ (call (Value.ref 123) _) _ _ _); k_dflt (refine' RO.use (c_closed_at _ _ _ _ _ _) ?zzk1 ?zzk2 ?zzk3 ?zzk4 ?zzk5 ?zzkK ?zzkP ?zzkd ?zzku ?_); k_extra "* my sides")
  k_with "* my call" => (k_here; (try dsimp only [List.append_nil]); (with_reducible show wpAny _ _ (call (Value.ref 130) _) _ _ _); k_dflt (refine' RO.use (c_gap_behind _ _ _ _ _ _) ?zzk1 ?zzk2 ?zzk3 ?zzk4 ?zzk5 ?zzkK ?zzkP ?zzkd ?zzku ?_); k_extra "* my sides")
  k_with "* my call" => (k_here; (try dsimp only [List.append_nil]); (with_reducible show wpAny _ _ (call (Value.ref 137) _) _ _ _); k_dflt (refine' RO.use (c_end_match _ _ _ _ _ _ _ _) ?zzk1 ?zzk2 ?zzk3 ?zzk4 ?zzk5 ?zzkK ?zzkP ?zzkd ?zzku ?_); k_extra "* my sides")
  k_with "* my call" => (k_here; (try dsimp only [List.append_nil]); (with_reducible show wpAny _ _ (call (Value.ref 144) _) _ _ _); k_dflt (refine' RO.use (c_spaces_begin _ _ _ _ _ _ _ _) ?zzk1 ?zzk2 ?zzk3 ?zzk4 ?zzk5 ?zzkK ?zzkP ?zzkd ?zzku ?_); k_extra "* my sides")
  k_with "* my call" => (k_here; (try dsimp only [List.append_nil]); (with_reducible show wpAny _ _ (call (Value.ref 106) _) _ _ _); k_dflt (refine' RO.use (c_text_end _ _ _ _ _ _ ?zzkq) ?zzk1 ?zzk2 ?zzk3 ?zzk4 ?zzk5 ?zzkK ?zzkP ?zzkd ?zzku ?_); (case zzkq => first | assumption | omega | (constructor <;> omega)); k_extra "* my sides")
  k_with "* my call" => (k_here; (try dsimp only [List.append_nil]); (with_reducible show wpAny _ _ (call (Value.ref 113) _) _ _ _); k_dflt (refine' RO.use (c_text_begin _ _ _ _ _ _ ?zzkq) ?zzk1 ?zzk2 ?zzk3 ?zzk4 ?zzk5 ?zzkK ?zzkP ?zzkd ?zzku ?_); (case zzkq => first | assumption | omega | (constructor <;> omega)); k_extra "* my sides")
  trivial
-- a call's sides, once a contract is laid on
-- the def is entered
set_option maxRecDepth 100000
set_option maxHeartbeats 8000000
theorem c_text_end (w : World) (x : Addr) (ns : List Int) (pl : Int) (i : Int) (t_i : Tok) (hq : pl ≤ i ∧ i ≤ pl + ns.length) : RO w 106 7 [.ref x, .int i t_i] (Vw w x ns pl) (fun t => .int (textEnd ns pl i i) t) := by
  unfold RO
  k_fill
  intro mean mg mb dp un gd cn cs a ccd cl outer A₀ base h₀ L m news s Q E B F X N T hk hdp hun V hret
  have V' := V
  obtain ⟨dx, l, t1, t2, t3, vs, k, V1, V2, V3, hI, hlen, hp0, hp1⟩ := V'
  have hvl := IntsAre.length hI
  k_extra "* my enter"
  k_with "exec While Constant cons nil" => k_while (fun _ k => pl ≤ k ∧ k ≤ pl + ns.length ∧ textEnd ns pl i k = textEnd ns pl i i) (fun _ k => (pl + ns.length - k).toNat) "at"
  k_with "state" => (first | (first | exact ⟨hq.1, hq.2, rfl⟩ | exact (te_n1 (by assumption) (by assumption) (by assumption) (by assumption) (by assumption) (by assumption) (by assumption)).1 | exact (te_n2 (by assumption) (by assumption) (by assumption) (by omega) (by omega) (by assumption)).1) | (fail "state"))
  k_with "measure" => (first | (first | ((have h9 := (te_n1 (p := i) (i := i) (by assumption) (by assumption) (by assumption) (by assumption) (by assumption) (by assumption) (by assumption))); omega) | ((have h9 := (te_n2 (p := i) (i := i) (by assumption) (by assumption) (by assumption) (by omega) (by omega) (by assumption))); omega)) | (fail "measure"))
  k_steps
  all_goals first
    | (refine' ret_int hret ?e1 ?e2 ?e3 ?e4; (case e1 => k_asm); (case e2 => k_asm); (case e3 => first | exact fun _ hp => hp | kcj_all); (case e4 => (first | exact te_o1 (by assumption) (by assumption) (by assumption) (.inl (by assumption)) | exact te_o1 (by assumption) (by assumption) (by assumption) (.inr (by assumption)) | exact te_o2 (by assumption) (by omega) (.inl (by assumption)) | exact te_o2 (by assumption) (by omega) (.inr (by assumption)))))
    | (fail "an end")
theorem c_text_begin (w : World) (x : Addr) (ns : List Int) (pl : Int) (i : Int) (t_i : Tok) (hq : 0 ≤ pl ∧ pl ≤ i) : RO w 113 7 [.ref x, .int i t_i] (Vw w x ns pl) (fun t => .int (textBegin ns pl i i) t) := by
  unfold RO
  k_fill
  intro mean mg mb dp un gd cn cs a ccd cl outer A₀ base h₀ L m news s Q E B F X N T hk hdp hun V hret
  have V' := V
  obtain ⟨dx, l, t1, t2, t3, vs, k, V1, V2, V3, hI, hlen, hp0, hp1⟩ := V'
  have hvl := IntsAre.length hI
  k_extra "* my enter"
  k_with "exec While Constant cons nil" => k_while (fun _ k => pl ≤ k ∧ textBegin ns pl i k = textBegin ns pl i i) (fun _ k => (k - pl).toNat) "at"
  k_with "state" => (first | (first | exact ⟨hq.2, rfl⟩ | rfl | (rw [← skipSpaces_go (by assumption) (by assumption)]; assumption) | exact (tb_n (by assumption) hq.1 (by assumption) kInv (by simp only [*]; first | omega | simp) (by assumption) (by assumption)).1) | (fail "state"))
  k_with "measure" => (first | (first | omega | ((have h9 := (tb_n (p := i) (i := i) (by assumption) hq.1 (by assumption) kInv (by simp only [*]; first | omega | simp) (by assumption) (by assumption))); omega)) | (fail "measure"))
  k_with "exec While BoolOp cons nil" => k_while_given ["behind!"] (fun b _ k => skipSpaces ns pl k = skipSpaces ns pl b) (fun b _ k => (pl + ns.length - k).toNat) "behind"
  k_steps
  all_goals first
    | (refine' ret_int hret ?e1 ?e2 ?e3 ?e4; (case e1 => k_asm); (case e2 => k_asm); (case e3 => first | exact fun _ hp => hp | kcj_all); (case e4 => (first | exact tb_o1 (by assumption) kInv (by simp only [*]; first | omega | simp) (by assumption) | exact tb_o2 (by assumption) kInv (by simp only [*]; first | omega | simp) (by assumption) (by assumption))))
    | (fail "an end")
end
section
open PySem PySem.W PyProof.Rows
theorem reset_V6 : True := by
  w_top off
  k_with_none
  k_with "* my sides" => (
  (case zzk1 => k_asm); (case zzk2 => k_asm); (case zzk3 => k_asm); (case zzk4 => k_asm); (case zzk5 => k_asm);
  (case zzkK => first | exact rfl | assumption);
  (case zzkP => first | assumption | exact trivial | (refine Vw.mono (by assumption) ?_; intro p9 hp9; first | kst_mem | (repeat (first | exact hp9 | refine List.Mem.tail _ ?_))));
  (case zzkd => ktr_room); (case zzku => ktr_units);
  intro t9 h9 tk9 F9 N9; (try dsimp only); (try k_fold))
  k_with "* compareOp In int ref" => (k_here; k_dflt (first
  | refine' in_top (t := 43) ?zzF ?zzX ?zzl ?zzi (any_parting _) ?_; (case zzF => k_asm); (case zzX => k_asm); (case zzl => k_is); (case zzi => exact IntsAre.cons _ _ (IntsAre.cons _ _ (IntsAre.cons _ _ IntsAre.nil))); k_whole
  | refine' in_top (t := 114) ?zzF ?zzX ?zzl ?zzi (any_stop _) ?_; (case zzF => k_asm); (case zzX => k_asm); (case zzl => k_is); (case zzi => exact IntsAre.cons _ _ (IntsAre.cons _ _ (IntsAre.cons _ _ IntsAre.nil))); k_whole
  | refine' in_top (t := 115) ?zzF ?zzX ?zzl ?zzi (any_closing _) ?_; (case zzF => k_asm); (case zzX => k_asm); (case zzl => k_is); (case zzi => exact IntsAre.cons _ _ (IntsAre.cons _ _ (IntsAre.cons _ _ (IntsAre.cons _ _ (IntsAre.cons _ _ IntsAre.nil))))); k_whole
  | refine' in_top (t := 116) ?zzF ?zzX ?zzl ?zzi (any_spaces _) ?_; (case zzF => k_asm); (case zzX => k_asm); (case zzl => k_is); (case zzi => exact IntsAre.cons _ _ (IntsAre.cons _ _ (IntsAre.cons _ _ IntsAre.nil))); k_whole
  | refine' in_led ?zzt ?zzi (any_spaces _) ?_; (case zzt => exact News.isTup (by k_asm) (by k_mem)); (case zzi => exact IntsAre.cons _ _ (IntsAre.cons _ _ (IntsAre.cons _ _ IntsAre.nil))); k_whole))
  k_with "* compareOp NotIn int ref" => (k_here; k_dflt (first
  | refine' notin_top (t := 114) ?zzF ?zzX ?zzl ?zzi (any_stop _) ?_; (case zzF => k_asm); (case zzX => k_asm); (case zzl => k_is); (case zzi => exact IntsAre.cons _ _ (IntsAre.cons _ _ (IntsAre.cons _ _ IntsAre.nil))); k_whole
  | refine' notin_top (t := 116) ?zzF ?zzX ?zzl ?zzi (any_spaces _) ?_; (case zzF => k_asm); (case zzX => k_asm); (case zzl => k_is); (case zzi => exact IntsAre.cons _ _ (IntsAre.cons _ _ (IntsAre.cons _ _ IntsAre.nil))); k_whole))
  k_with "* my sides2" => (
  (case zzk1 => k_asm); (case zzk2 => k_asm); (case zzk3 => k_asm); (case zzk4 => k_asm); (case zzk5 => k_asm);
  (case zzkK => first | exact rfl | assumption);
  (case zzkP => first | assumption | exact trivial | (refine Vw.mono (by assumption) ?_; intro p9 hp9; first | kst_mem | (repeat (first | exact hp9 | refine List.Mem.tail _ ?_))));
  (case zzkd => ktr_room); (case zzku => ktr_units);
  intro q9 t9 h9 tk9 F9 N9; (try dsimp only); (try k_fold))
  k_with "* my enter" => (refine wpAny_call ?_; k_dflt cell_enter)
  k_with "* exec While BoolOp cons nil" => k_extra "exec While BoolOp cons nil"
  k_with "* exec While Compare cons nil" => k_extra "exec While Compare cons nil"
  k_with "* exec While Constant cons nil" => k_extra "exec While Constant cons nil"
  k_with "* call ref cons nil" => k_extra "* my call"
  k_with "* call ref nil" => k_extra "* my call"
  k_with "* my call" => (k_here; (try dsimp only [List.append_nil]); (with_reducible show wpAny _ _ (call (Value.ref 187) _) _ _ _); k_dflt (refine' RO.use (c_begin _ _ _ _) ?zzk1 ?zzk2 ?zzk3 ?zzk4 ?zzk5 ?zzkK ?zzkP ?zzkd ?zzku ?_); k_extra "* my sides")
  k_with "* my call" => (k_here; (try dsimp only [List.append_nil]); (with_reducible show wpAny _ _ (call (Value.ref 194) _) _ _ _); k_dflt (refine' RO.use (c_end _ _ _ _) ?zzk1 ?zzk2 ?zzk3 ?zzk4 ?zzk5 ?zzkK ?zzkP ?zzkd ?zzku ?_); k_extra "* my sides")
  k_with "* my call" => (k_here; (try dsimp only [List.append_nil]); (with_reducible show wpAny _ _ (call (Value.ref 201) _) _ _ _); k_dflt (refine' RO.use (c_code_at _ _ _ _ _ _) ?zzk1 ?zzk2 ?zzk3 ?zzk4 ?zzk5 ?zzkK ?zzkP ?zzkd ?zzku ?_); k_extra "* my sides")
  k_with "* my call" => (k_here; (try dsimp only [List.append_nil]); (with_reducible show wpAny _ _ (call (Value.ref 21) _) _ _ _); k_dflt (refine' RO.use (c_line_start _ _ _ _ _ _) ?zzk1 ?zzk2 ?zzk3 ?zzk4 ?zzk5 ?zzkK ?zzkP ?zzkd ?zzku ?_); k_extra "* my sides")
  k_with "* my call" => (k_here; (try dsimp only [List.append_nil]); (with_reducible show wpAny _ _ (call (Value.ref 28) _) _ _ _); k_dflt (refine' RO.use (c_line_end _ _ _ _ _ _) ?zzk1 ?zzk2 ?zzk3 ?zzk4 ?zzk5 ?zzkK ?zzkP ?zzkd ?zzku ?_); k_extra "* my sides")
  k_with "* my call" => (k_here; (try dsimp only [List.append_nil]); (with_reducible show wpAny _ _ (call (Value.ref 35) _) _ _ _); k_dflt (refine' RO.use (c_next_start _ _ _ _ _ _) ?zzk1 ?zzk2 ?zzk3 ?zzk4 ?zzk5 ?zzkK ?zzkP ?zzkd ?zzku ?_); k_extra "* my sides")
  k_with "* my call" => (k_here; (try dsimp only [List.append_nil]); (with_reducible show wpAny _ _ (call (Value.ref 42) _) _ _ _); k_dflt (refine' RO.use (c_is_line_end _ _ _ _ _ _) ?zzk1 ?zzk2 ?zzk3 ?zzk4 ?zzk5 ?zzkK ?zzkP ?zzkd ?zzku ?_); k_extra "* my sides")
  k_with "* my call" => (k_here; (try dsimp only [List.append_nil]); (with_reducible show wpAny _ _ (call (Value.ref 50) _) _ _ _); k_dflt (refine' RO.use (c_parts _ _ _ _ _ _) ?zzk1 ?zzk2 ?zzk3 ?zzk4 ?zzk5 ?zzkK ?zzkP ?zzkd ?zzku ?_); k_extra "* my sides")
  k_with "* my call" => (k_here; (try dsimp only [List.append_nil]); (with_reducible show wpAny _ _ (call (Value.ref 57) _) _ _ _); k_dflt (refine' RO.use (c_begins _ _ _ _ _ _) ?zzk1 ?zzk2 ?zzk3 ?zzk4 ?zzk5 ?zzkK ?zzkP ?zzkd ?zzku ?_); k_extra "* my sides")
  k_with "* my call" => (k_here; (try dsimp only [List.append_nil]); (with_reducible show wpAny _ _ (call (Value.ref 64) _) _ _ _); k_dflt (refine' RO.use (c_line_behind _ _ _ _ _ _) ?zzk1 ?zzk2 ?zzk3 ?zzk4 ?zzk5 ?zzkK ?zzkP ?zzkd ?zzku ?_); k_extra "* my sides")
  k_with "* my call" => (k_here; (try dsimp only [List.append_nil]); (with_reducible show wpAny _ _ (call (Value.ref 71) _) _ _ _); k_dflt (refine' RO.use (c_past_parting _ _ _ _ _ _) ?zzk1 ?zzk2 ?zzk3 ?zzk4 ?zzk5 ?zzkK ?zzkP ?zzkd ?zzku ?_); k_extra "* my sides")
  k_with "* my call" => (k_here; (try dsimp only [List.append_nil]); (with_reducible show wpAny _ _ (call (Value.ref 78) _) _ _ _); k_dflt (refine' RO.use (c_one_forward _ _ _ _ _ _) ?zzk1 ?zzk2 ?zzk3 ?zzk4 ?zzk5 ?zzkK ?zzkP ?zzkd ?zzku ?_); k_extra "* my sides")
  k_with "* my call" => (k_here; (try dsimp only [List.append_nil]); (with_reducible show wpAny _ _ (call (Value.ref 85) _) _ _ _); k_dflt (refine' RO.use (c_is_behind_empty _ _ _ _ _ _) ?zzk1 ?zzk2 ?zzk3 ?zzk4 ?zzk5 ?zzkK ?zzkP ?zzkd ?zzku ?_); k_extra "* my sides")
  k_with "* my call" => (k_here; (try dsimp only [List.append_nil]); (with_reducible show wpAny _ _ (call (Value.ref 92) _) _ _ _); k_dflt (refine' RT.use (c_first_line _ _ _ _ _ _) ?zzk1 ?zzk2 ?zzk3 ?zzk4 ?zzk5 ?zzkK ?zzkP ?zzkd ?zzku ?_); k_extra "* my sides2")
  k_with "* my call" => (k_here; (try dsimp only [List.append_nil]); (with_reducible show wpAny _ _ (call (Value.ref 99) _) _ _ _); k_dflt (refine' RO.use (c_one_backward _ _ _ _ _ _) ?zzk1 ?zzk2 ?zzk3 ?zzk4 ?zzk5 ?zzkK ?zzkP ?zzkd ?zzku ?_); k_extra "* my sides")
  k_with "* my call" => (k_here; (try dsimp only [List.append_nil]); (with_reducible show wpAny _ _ (call (Value.ref 123) _) _ _ _); k_dflt (refine' RO.use (c_closed_at _ _ _ _ _ _) ?zzk1 ?zzk2 ?zzk3 ?zzk4 ?zzk5 ?zzkK ?zzkP ?zzkd ?zzku ?_); k_extra "* my sides")
  k_with "* my call" => (k_here; (try dsimp only [List.append_nil]); (with_reducible show wpAny _ _ (call (Value.ref 130) _) _ _ _); k_dflt (refine' RO.use (c_gap_behind _ _ _ _ _ _) ?zzk1 ?zzk2 ?zzk3 ?zzk4 ?zzk5 ?zzkK ?zzkP ?zzkd ?zzku ?_); k_extra "* my sides")
  k_with "* my call" => (k_here; (try dsimp only [List.append_nil]); (with_reducible show wpAny _ _ (call (Value.ref 137) _) _ _ _); k_dflt (refine' RO.use (c_end_match _ _ _ _ _ _ _ _) ?zzk1 ?zzk2 ?zzk3 ?zzk4 ?zzk5 ?zzkK ?zzkP ?zzkd ?zzku ?_); k_extra "* my sides")
  k_with "* my call" => (k_here; (try dsimp only [List.append_nil]); (with_reducible show wpAny _ _ (call (Value.ref 144) _) _ _ _); k_dflt (refine' RO.use (c_spaces_begin _ _ _ _ _ _ _ _) ?zzk1 ?zzk2 ?zzk3 ?zzk4 ?zzk5 ?zzkK ?zzkP ?zzkd ?zzku ?_); k_extra "* my sides")
  k_with "* my call" => (k_here; (try dsimp only [List.append_nil]); (with_reducible show wpAny _ _ (call (Value.ref 106) _) _ _ _); k_dflt (refine' RO.use (c_text_end _ _ _ _ _ _ ?zzkq) ?zzk1 ?zzk2 ?zzk3 ?zzk4 ?zzk5 ?zzkK ?zzkP ?zzkd ?zzku ?_); (case zzkq => first | assumption | omega | (constructor <;> omega)); k_extra "* my sides")
  k_with "* my call" => (k_here; (try dsimp only [List.append_nil]); (with_reducible show wpAny _ _ (call (Value.ref 113) _) _ _ _); k_dflt (refine' RO.use (c_text_begin _ _ _ _ _ _ ?zzkq) ?zzk1 ?zzk2 ?zzk3 ?zzk4 ?zzk5 ?zzkK ?zzkP ?zzkd ?zzku ?_); (case zzkq => first | assumption | omega | (constructor <;> omega)); k_extra "* my sides")
  k_with "* my call" => (k_here; (try dsimp only [List.append_nil]); (with_reducible show wpAny _ _ (call (Value.ref 151) _) _ _ _); k_dflt (refine' RO.use (c_one_fwd _ _ _ _ _ _ ?zzkq) ?zzk1 ?zzk2 ?zzk3 ?zzk4 ?zzk5 ?zzkK ?zzkP ?zzkd ?zzku ?_); (case zzkq => first | assumption | omega | (constructor <;> omega)); k_extra "* my sides")
  k_with "* my call" => (k_here; (try dsimp only [List.append_nil]); (with_reducible show wpAny _ _ (call (Value.ref 158) _) _ _ _); k_dflt (refine' RO.use (c_one_bwd _ _ _ _ _ _ ?zzkq) ?zzk1 ?zzk2 ?zzk3 ?zzk4 ?zzk5 ?zzkK ?zzkP ?zzkd ?zzku ?_); (case zzkq => first | assumption | omega | (constructor <;> omega)); k_extra "* my sides")
  k_with "* my call" => (k_here; (try dsimp only [List.append_nil]); (with_reducible show wpAny _ _ (call (Value.ref 165) _) _ _ _); k_dflt (refine' RO.use (c_target _ _ _ _ _ _ _ _ ?zzkq) ?zzk1 ?zzk2 ?zzk3 ?zzk4 ?zzk5 ?zzkK ?zzkP ?zzkd ?zzku ?_); (case zzkq => first | assumption | omega | (constructor <;> omega)); k_extra "* my sides")
  trivial
-- a call's sides, once a contract is laid on
-- the def is entered
set_option maxRecDepth 100000
set_option maxHeartbeats 8000000
theorem c_one_fwd (w : World) (x : Addr) (ns : List Int) (pl : Int) (i : Int) (t_i : Tok) (hq : pl ≤ i ∧ i ≤ pl + ns.length) : RO w 151 8 [.ref x, .int i t_i] (Vw w x ns pl) (fun t => .int (oneFwd ns pl i) t) := by
  unfold RO
  k_fill
  intro mean mg mb dp un gd cn cs a ccd cl outer A₀ base h₀ L m news s Q E B F X N T hk hdp hun V hret
  have V' := V
  obtain ⟨dx, l, t1, t2, t3, vs, k, V1, V2, V3, hI, hlen, hp0, hp1⟩ := V'
  have hvl := IntsAre.length hI
  k_extra "* my enter"
  have hte := textEnd_bd (cs := ns) (pl := pl) (p := i) (i := i) hq.1 hq.2 hq.2
  k_with "pyIter ref" => k_search (fun pre => fwdScan ns pl (textEnd ns pl i i) (i + (pre.length : Int)) = oneFwd ns pl i)
  k_with "state" => (first | exact fw_start | exact fw_turn kInv kEq (by omega) (by omega) | (fail "state"))
  k_steps
  all_goals first
    | (refine' ret_int hret ?e1 ?e2 ?e3 ?e4; (case e1 => k_asm); (case e2 => k_asm); (case e3 => first | exact fun _ hp => hp | kcj_all | (intro p9 hp9; kst_mem)); (case e4 => (first | exact fw_hit kInv kEq (by omega) (by omega) | exact fw_end kInv (by simp only [rangeKs_length] at *; omega))))
    | (fail "an end")
theorem c_one_bwd (w : World) (x : Addr) (ns : List Int) (pl : Int) (i : Int) (t_i : Tok) (hq : pl ≤ i ∧ i ≤ pl + ns.length) : RO w 158 8 [.ref x, .int i t_i] (Vw w x ns pl) (fun t => .int (oneBwd ns pl i) t) := by
  unfold RO
  k_fill
  intro mean mg mb dp un gd cn cs a ccd cl outer A₀ base h₀ L m news s Q E B F X N T hk hdp hun V hret
  have V' := V
  obtain ⟨dx, l, t1, t2, t3, vs, k, V1, V2, V3, hI, hlen, hp0, hp1⟩ := V'
  have hvl := IntsAre.length hI
  k_extra "* my enter"
  have hte := textBegin_bd (cs := ns) (pl := pl) (p := i) (i := i) hp0 hq.1 (Int.le_refl _)
  k_with "pyIter ref" => ((rename Fr _ _ _ _ => lF'); (rename News _ _ _ _ => lN'); (rename IsRange _ _ _ _ _ _ _ _ => rgX); (with_unfolding_all refine' kst_rangeD (fun _ : Unit => news) (fun _ => []) (fun _ => True) [Str.ofString "behind"] (fun pre _ => bwdScan ns pl i (textBegin ns pl i i) (i - 1 - (pre.length : Int)) = oneBwd ns pl i) () (by rfl) (by first | exact rgX | assumption) (small_down (by omega) (by omega) (by omega) (by omega)) (rangeSize_downNat _ _) lF' lN' True.intro (List.forall_mem_nil _) bw_start ?kA ?kB); (case' kA => (intro kC kPre kN kT kU kH kTk kOwn kEq kLt kOff kFacts kInv kFr kNews)); (case' kB => (intro kC kU kH kTk kFacts kInv kFr kNews)); (all_goals ((have kMark := kstMark); (try dsimp only [kstB] at kFr); (try dsimp only at kNews); (try dsimp only at kInv); (try simp only [List.nil_append, List.cons_append, List.append_nil] at kNews); (try k_fold))))
  k_with "state" => (first | exact bw_turn kInv kEq (by omega) (by rintro ⟨h1, h2, h3⟩; first | omega | exact absurd (h3.symm.trans (show _ = true from by assumption)) Bool.false_ne_true) | (fail "state"))
  k_steps
  all_goals first
    | (refine' ret_int hret ?e1 ?e2 ?e3 ?e4; (case e1 => k_asm); (case e2 => k_asm); (case e3 => first | exact fun _ hp => hp | kcj_all | (intro p9 hp9; kst_mem)); (case e4 => (first | exact bw_hit kInv kEq (by omega) (by omega) (by omega) (by assumption) | exact bw_end kInv (by simp only [downKs_length] at *; omega))))
    | (fail "an end")
theorem c_target (w : World) (x : Addr) (ns : List Int) (pl : Int) (i : Int) (t_i : Tok) (many : Int) (t_many : Tok) (hq : pl ≤ i ∧ i ≤ pl + ns.length ∧ -1000 ≤ many ∧ many ≤ 1000) : RO w 165 9 [.ref x, .int i t_i, .int many t_many] (Vw w x ns pl) (fun t => .int (target ns pl i many) t) := by
  unfold RO
  k_fill
  intro mean mg mb dp un gd cn cs a ccd cl outer A₀ base h₀ L m news s Q E B F X N T hk hdp hun V hret
  have V' := V
  obtain ⟨dx, l, t1, t2, t3, vs, k, V1, V2, V3, hI, hlen, hp0, hp1⟩ := V'
  have hvl := IntsAre.length hI
  k_extra "* my enter"
  k_with "pyIter ref" => k_state (fun pre p => p = iter (stepOf ns pl many) pre.length i ∧ pl ≤ p ∧ p ≤ pl + ns.length) "place"
  k_with "state" => (first | exact ⟨rfl, hq.1, hq.2.1⟩ | exact tg_fwd hp0 (by assumption) (by assumption) (by assumption) (by assumption) | exact tg_bwd hp0 (by assumption) (by assumption) (by assumption) (by assumption) | (fail "state"))
  k_steps
  all_goals first
    | (refine' ret_int hret ?e1 ?e2 ?e3 ?e4; (case e1 => k_asm); (case e2 => k_asm); (case e3 => first | exact fun _ hp => hp | kcj_all | (intro p9 hp9; kst_mem)); (case e4 => (first | exact tg_end (by assumption) (by rw [rangeKs_length]; split <;> omega))))
    | (fail "an end")
end
section
open PySem PySem.W PyProof.Rows
/-- the deck: not empty, short, its ints within bounds -/
noncomputable def DeckOk (ks : List Int) : Prop := 0 < ks.length ∧ ks.length ≤ 30 ∧ ∀ d ∈ ks, 0 ≤ d ∧ d < 10 ^ 60
theorem DeckOk.head {ks : List Int} (h : DeckOk ks) : 0 ≤ ks.getD 0 0 ∧ ks.getD 0 0 < 10 ^ 60 := by
  obtain ⟨h1, _, h3⟩ := h
  cases ks with
  | nil => exact absurd h1 (Nat.lt_irrefl 0)
  | cons a r => exact h3 a (.head _)
theorem DeckOk.tail {ks : List Int} (h : DeckOk ks) (h1 : 1 < ks.length) : DeckOk ks.tail := by
  obtain ⟨_, h2, h3⟩ := h
  refine ⟨by rw [List.length_tail]; omega, by rw [List.length_tail]; omega, fun d hd => h3 d (List.mem_of_mem_tail hd)⟩
theorem DeckOk.put {ks : List Int} (h : DeckOk ks) {x : Int} (h0 : 0 ≤ x) (h1 : x < 10 ^ 60) : DeckOk (ks.set 0 x) := by
  obtain ⟨a1, a2, a3⟩ := h
  refine ⟨by rw [List.length_set]; exact a1, by rw [List.length_set]; exact a2, fun d hd => ?_⟩
  rcases List.mem_or_eq_of_mem_set hd with hd | rfl
  · exact a3 d hd
  · exact ⟨h0, h1⟩
/-- what the walk wants of it -/
abbrev DeckAll (ks : List Int) : Prop := DeckOk ks ∧ 0 < ks.length ∧ ks.length ≤ 30 ∧ 0 ≤ ks.getD 0 0 ∧ ks.getD 0 0 < 10 ^ 60
theorem DeckOk.all {ks : List Int} (h : DeckOk ks) : DeckAll ks := ⟨h, h.1, h.2.1, h.head.1, h.head.2⟩
/-- a call that turns the deck at d and hands back a value -/
noncomputable def RM (w : World) (f : Addr) (D : Nat) (d : Addr) (vs : List Value) (P : List (Addr × Obj) → Prop) (Out : Value → Prop) : Prop :=
  ∀ (mean : ExcName → Option Value) (mg mb : Str → Option Value) (dp un : Nat) (gd : Option (List Code)) (cn : Str) (cs : Scope) (a : Addr) (ccd : Value) (cl : List (Str × Addr)) (outer : List Env) (A₀ : Around) (base h₀ : Heap) (L : Addr) (m : Str → Option Value) (rest : List (Addr × Obj)) (s : Shared) (Q E : Value → Shared → Prop) (us : List Value) (ks : List Int) (n : Nat),
    Below A₀ base outer h₀ → Fr h₀ L s.heap m → (Mine.hd.heap_39 w.params).In h₀ → News h₀ L s.heap ((d, listOf us.toArray n) :: rest) → Top Mine.hd.view_39 (looseW Mine.hd.view_39 [Str.ofString "PARTING", Str.ofString "SPACES"]) mean mg mb h₀ → cs.kind = .function → dp + D < recursionLimit → un + 8 * D < cLine →
    (∀ p ∈ rest, p.1 ≠ d) → IntsAre us ks → DeckOk ks → P rest →
    (∀ (v : Value) (h' : Heap) (tk' : Nat) (us' : List Value) (ks' : List Int) (n' : Nat), Out v → Fr h₀ L h' m → News h₀ L h' ((d, listOf us'.toArray n') :: rest) → IntsAre us' ks' → DeckOk ks' → Q v { s with heap := h', toks := tk' }) →
    wpAny (model PySem.Challenge.rw_np0037_01.row.prog w) (ktrTop dp un gd cn cs L a ccd cl outer) (call (.ref f) vs) Q E s
theorem updF_news {d : Addr} {o : Obj} {news : List (Addr × Obj)} {g : Obj → List (Addr × Obj)} (U : UpdF d o news g) : ∃ rest, (∀ p ∈ (d, o) :: rest, p ∈ news) ∧ (∀ p ∈ rest, p.1 ≠ d) ∧ (∀ o', ∀ p ∈ g o', p ∈ (d, o') :: rest) ∧ (∀ p ∈ news, p.1 ≠ d → p ∈ rest) := by
  obtain ⟨pre, post, rfl, e2, a, b⟩ := U.split
  refine ⟨pre ++ post, ?_, ?_, ?_, ?_⟩
  · intro p hp
    rcases List.mem_cons.mp hp with rfl | hp
    · simp
    · rcases List.mem_append.mp hp with hp | hp <;> simp [hp]
  · intro p hp
    rcases List.mem_append.mp hp with hp | hp
    · exact a p hp
    · exact b p hp
  · intro o' p hp
    rw [e2] at hp
    rcases List.mem_append.mp hp with hp | hp
    · simp [hp]
    · rcases List.mem_cons.mp hp with rfl | hp <;> simp [*]
  · intro p hp hne
    rcases List.mem_append.mp hp with hp | hp
    · simp [hp]
    · rcases List.mem_cons.mp hp with rfl | hp
      · exact absurd rfl hne
      · simp [hp]
theorem RM.use {w : World} {f : Addr} {D : Nat} {d : Addr} {vs : List Value} {P : List (Addr × Obj) → Prop} {Out : Value → Prop} (C : RM w f D d vs P Out)
    {mean : ExcName → Option Value} {mg mb : Str → Option Value} {dp un : Nat} {gd : Option (List Code)} {cn : Str} {cs : Scope} {a : Addr} {ccd : Value} {cl : List (Str × Addr)} {outer : List Env} {A₀ : Around} {base h₀ : Heap} {L : Addr} {m : Str → Option Value} {news : List (Addr × Obj)} {g : Obj → List (Addr × Obj)} {s : Shared} {Q E : Value → Shared → Prop} {us : List Value} {ks : List Int} {n : Nat}
    (B : Below A₀ base outer h₀) (F : Fr h₀ L s.heap m) (X : (Mine.hd.heap_39 w.params).In h₀) (N : News h₀ L s.heap news) (T : Top Mine.hd.view_39 (looseW Mine.hd.view_39 [Str.ofString "PARTING", Str.ofString "SPACES"]) mean mg mb h₀) (hk : cs.kind = .function) (hd : dp + D < recursionLimit) (hu : un + 8 * D < cLine)
    (U : UpdF d (listOf us.toArray n) news g) (hI : IntsAre us ks) (hK : DeckOk ks) (hP : ∀ rest : List (Addr × Obj), (∀ p ∈ news, p.1 ≠ d → p ∈ rest) → P rest)
    (ret : ∀ (v : Value) (h' : Heap) (tk' : Nat) (us' : List Value) (ks' : List Int) (n' : Nat), Out v → Fr h₀ L h' m → News h₀ L h' (g (listOf us'.toArray n')) → IntsAre us' ks' → DeckOk ks' → Q v { s with heap := h', toks := tk' }) :
    wpAny (model PySem.Challenge.rw_np0037_01.row.prog w) (ktrTop dp un gd cn cs L a ccd cl outer) (call (.ref f) vs) Q E s := by
  obtain ⟨rest, r1, r2, r3, r4⟩ := updF_news U
  exact C mean mg mb dp un gd cn cs a ccd cl outer A₀ base h₀ L m rest s Q E us ks n B F X (cb_drop N r1) T hk hd hu r2 hI hK (hP rest r4) fun v h' tk' us' ks' n' ho F' N' I' K' => ret v h' tk' us' ks' n' ho F' (cb_drop N' (r3 _)) I' K'
theorem ints_tail {us : List Value} {ks : List Int} (hi : IntsAre us ks) (h : 0 < us.length) : ∃ t r, us = .int (ks.getD 0 0) t :: r ∧ us.tail = r ∧ IntsAre us.tail ks.tail := by
  cases hi with
  | nil => exact absurd h (Nat.lt_irrefl 0)
  | cons k t r => exact ⟨t, _, rfl, rfl, r⟩
section
variable {prog : Program} {w : World} {A : Around} {E : Value → Shared → Prop} {s : Shared} {h₀ : Heap} {L D : Addr} {m : Str → Option Value} {news news' : List (Addr × Obj)} {n : Nat}
theorem my_pop0 {us : List Value} {ks : List Int} {u : Tok} {Q : Value → Shared → Prop} (F : Fr h₀ L s.heap m) (N : News h₀ L s.heap news) (U : Upd D (listOf us.toArray n) (listOf us.tail.toArray (n + 1)) news news') (hi : IntsAre us ks) (hne : 0 < us.length)
    (hz : us.length ≤ sizeLine) (h : ∀ h' t, Fr h₀ L h' m → News h₀ L h' news' → IntsAre us.tail ks.tail → Q (.int (ks.getD 0 0) t) { s with heap := h' }) : wpAny (model prog w) A (call (.builtin "list.pop") [.ref D, .int 0 u]) Q E s := by
  obtain ⟨t, r, rfl, h2, h3⟩ := ints_tail hi hne
  refine kl_popAt (its := (Value.int (ks.getD 0 0) t :: r).toArray) (i := 0) (u := u) (k := 0) (n := n) F N rfl (by simp [seqIndex?]) rfl (p := []) (q := r) (y := .int (ks.getD 0 0) t) ?_ hz fun h' F' N' => h h' t F' N' h3
  exact U
end
end
section
open PySem PySem.W PyProof.Rows
theorem reset_W2 : True := by
  w_top off
  k_with_none
  k_with "* my enter" => (refine wpAny_call ?_; k_dflt cell_enter)
  k_with "* exec While BoolOp cons nil" => k_extra "exec While BoolOp cons nil"
  k_with "* call builtin:list.pop" => (k_here; (with_reducible show wpAny _ _ (call (Value.builtin _) [Value.ref _, Value.int 0 _]) _ _ _); k_dflt (refine' my_pop0 ?zzF ?zzN ?zzU ?zzi ?zzl ?zzz ?_; (case zzF => k_asm); (case zzN => k_asm); (case zzU => k_upd); (case zzi => with_reducible assumption); (case zzl => kpa_ne); (case zzz => kpa_room)); (intro h' t' F' N' hI'; (try dsimp only at N')))
  trivial
theorem fmod_in {x many : Int} (hm : 1 ≤ many) : 0 ≤ x.fmod many ∧ x.fmod many < many := ⟨Int.fmod_nonneg_of_pos _ (by omega), Int.fmod_lt_of_pos _ (by omega)⟩
theorem deck_div {ks : List Int} {many : Int} (h : DeckOk ks) (hm : 1 ≤ many) : DeckOk (ks.set (Int.toNat 0) ((ks.getD (Int.toNat 0) 0).fdiv many)) := by
  have h1 := h.head
  have e : (ks.getD (Int.toNat 0) 0).fdiv many = ks.getD 0 0 / many := Int.fdiv_eq_ediv_of_nonneg _ (by omega)
  have e1 : ks.getD 0 0 / many ≤ ks.getD 0 0 := Int.ediv_le_self _ h1.1
  have e2 : 0 ≤ ks.getD 0 0 / many := Int.ediv_nonneg h1.1 (by omega)
  exact h.put (by rw [e]; exact e2) (by rw [e]; omega)
theorem deck_mix {ks : List Int} {x : Int} (h : DeckOk ks) : DeckOk (ks.set (Int.toNat 0) (x.fmod 2147483647)) := by
  have h1 := fmod_in (x := x) (many := 2147483647) (by omega)
  exact h.put h1.1 (by omega)
set_option maxRecDepth 100000
set_option maxHeartbeats 8000000
theorem c_draw (w : World) (d : Addr) (many : Int) (tm : Tok) (hm : 1 ≤ many ∧ many ≤ 1000) : RM w 215 1 d [.ref d, .int many tm] (fun _ => True) (fun v => ∃ x t, v = .int x t ∧ 0 ≤ x ∧ x < many) := by
  unfold RM
  k_fill
  intro mean mg mb dp un gd cn cs a ccd cl outer A₀ base h₀ L m rest s Q E us ks n B F X N T hk hdp hun hne hI hK hP hret
  have hKa := hK.all
  have hvl := IntsAre.length hI
  have hMk : KstMark := kstMark
  k_extra "* my enter"
  k_with "exec While BoolOp cons nil" => k_while (fun _ ks => DeckAll ks) (fun _ ks => ks.length) "_law_deck"
  k_with "state" => (first | exact hKa | exact (DeckOk.tail (by assumption) (by omega)).all)
  k_with "measure" => (rw [List.length_tail]; omega)
  k_steps
  · exact hret _ _ _ _ _ _ ⟨_, _, rfl, (fmod_in hm.1).1, (fmod_in hm.1).2⟩ (by k_asm) (by k_asm) (by assumption) (deck_div (by assumption) hm.1)
  · exact hret _ _ _ _ _ _ ⟨_, _, rfl, (fmod_in hm.1).1, (fmod_in hm.1).2⟩ (by k_asm) (by k_asm) (by assumption) (deck_mix (by assumption))
end
section
open PySem PySem.W PyProof.Rows PySem.Calls
theorem reset_W3 : True := by
  w_top off
  k_with_none
  k_with "* my enter" => (refine wpAny_call ?_; k_dflt cell_enter)
  k_with "* my sidesM" => (
  (case zzk1 => k_asm); (case zzk2 => k_asm); (case zzk3 => k_asm); (case zzk4 => k_asm); (case zzk5 => k_asm);
  (case zzkK => first | exact rfl | assumption);
  (case zzkd => ktr_room); (case zzku => ktr_units);
  (case zzkU => k_updF); (case zzkI => with_reducible assumption); (case zzkD => assumption))
  k_with "* call ref cons nil" => k_extra "* my call"
  k_with "* my call" => (k_here; (try dsimp only [List.append_nil]); (with_reducible show wpAny _ _ (call (Value.ref 215) _) _ _ _); k_dflt (refine' RM.use (c_draw _ _ _ _ ?zzkq) ?zzk1 ?zzk2 ?zzk3 ?zzk4 ?zzk5 ?zzkK ?zzkd ?zzku ?zzkU ?zzkI ?zzkD (fun _ _ => trivial) ?_); (case zzkq => first | assumption | omega | (constructor <;> omega)); k_extra "* my sidesM"; intro v9 h9 tk9 us9 ks9 n9 ho9 F9 N9 I9 K9; obtain ⟨x9, t9, e9, hx0, hx1⟩ := ho9; subst e9; (try dsimp only at N9); (try dsimp only); (try k_fold))
  k_with "* call builtin:len" => (k_here; (with_reducible show wpAny _ _ (call (Value.builtin "len") [Value.ref _]) _ _ _); k_dflt (refine' my_len ?zzk1 ?zzk2 ?zzk3 ?_; (case zzk1 => k_asm); (case zzk2 => k_mem); (case zzk3 => omega); k_whole))
  k_with "* subscriptTail" => (k_here; (with_reducible show wpAny _ _ (subscriptTail _ _ (Value.ref _) (Value.int _ _)) _ _ _); k_dflt (refine' my_item ?zzk1 ?zzk2 ?zzk4 ?zzk5 ?zzk6 ?_ ?zzk7; (case zzk1 => k_asm); (case zzk2 => k_mem); (case zzk4 => omega); (case zzk5 => omega); (case zzk6 => omega); (case zzk7 => with_unfolding_all rfl); k_whole); intro v8 hv8)
  trivial
section
variable {prog : Program} {w : World} {A : Around} {E : Value → Shared → Prop} {s : Shared} {h₀ : Heap} {L : Addr} {news : List (Addr × Obj)}
theorem my_item {value slice : PySem.Expr} {l : Addr} {its : List Value} {n : Nat} {k : Int} {u : Tok} {Q : Value → Shared → Prop} (N : News h₀ L s.heap news) (hm : (l, listOf its.toArray n) ∈ news) (h0 : 0 ≤ k) (h1 : k < its.length) (hfit : k < 2 ^ 63)
    (h : ∀ v, v ∈ its → Q v s) (hs : subscripted slice false (.ref l) (.int k u) = operate [.ref l, .int k u] (getItem (.ref l) (.int k u)) := by with_unfolding_all rfl) :
    wpAny (model prog w) A (subscriptTail value slice (.ref l) (.int k u)) Q E s := by
  have hl : s.heap.IsList l its.toArray := PySem.IsL.isList (n := n) (N _ hm).1
  have hk : k.toNat < its.length := by omega
  exact tail_any hl.typeIs slot_list_getitem.lookup (wpAny_getItem_list hl h0 hfit (x := its[k.toNat]) (by simp [hk]) (h _ (List.getElem_mem hk))) hs
theorem my_len {l : Addr} {its : List Value} {n : Nat} {Q : Value → Shared → Prop} (N : News h₀ L s.heap news) (hm : (l, listOf its.toArray n) ∈ news) (hfit : its.length ≤ 1000)
    (h : Q (.int (its.length : Int) (s.toks + 1)) { s with toks := s.toks + 1 + 1 }) : wpAny (model prog w) A (call (.builtin "len") [.ref l]) Q E s := kst_len N hm rfl (by omega) h
end
set_option maxRecDepth 100000
set_option maxHeartbeats 8000000
theorem c_one (w : World) (d q : Addr) (its : List Value) (c : Nat) (h1 : 1 ≤ its.length ∧ its.length ≤ 1000) : RM w 227 2 d [.ref d, .ref q] (fun rest => (q, listOf its.toArray c) ∈ rest) (fun v => v ∈ its) := by
  unfold RM
  k_fill
  intro mean mg mb dp un gd cn cs a ccd cl outer A₀ base h₀ L m rest s Q E us ks n B F X N T hk hdp hun hne hI hK hP hret
  have hvl := IntsAre.length hI
  have hMk : KstMark := kstMark
  k_extra "* my enter"
  k_steps
  all_goals exact hret _ _ _ _ _ _ (by assumption) (by k_asm) (by k_asm) (by assumption) (by assumption)
end
section
open PySem PySem.W PyProof.Rows PySem.Calls
theorem reset_W4 : True := by
  w_top off
  k_with_none
  k_with "* my enter" => (refine wpAny_call ?_; k_dflt cell_enter)
  k_with "* my sidesM" => (
  (case zzk1 => k_asm); (case zzk2 => k_asm); (case zzk3 => k_asm); (case zzk4 => k_asm); (case zzk5 => k_asm);
  (case zzkK => first | exact rfl | assumption);
  (case zzkd => ktr_room); (case zzku => ktr_units);
  (case zzkU => k_updF); (case zzkI => with_reducible assumption); (case zzkD => assumption))
  k_with "* call ref cons nil" => k_extra "* my call"
  k_with "* my call" => (k_here; (try dsimp only [List.append_nil]); (with_reducible show wpAny _ _ (call (Value.ref 215) _) _ _ _); k_dflt (refine' RM.use (c_draw _ _ _ _ ?zzkq) ?zzk1 ?zzk2 ?zzk3 ?zzk4 ?zzk5 ?zzkK ?zzkd ?zzku ?zzkU ?zzkI ?zzkD (fun _ _ => trivial) ?_); (case zzkq => first | assumption | omega | (constructor <;> omega)); k_extra "* my sidesM"; intro v9 h9 tk9 us9 ks9 n9 ho9 F9 N9 I9 K9; obtain ⟨x9, t9, e9, hx0, hx1⟩ := ho9; subst e9; (try dsimp only at N9); (try dsimp only); (try k_fold))
  k_with "* call builtin:len" => (k_here; (with_reducible show wpAny _ _ (call (Value.builtin "len") [Value.ref _]) _ _ _); k_dflt (refine' my_len ?zzk1 ?zzk2 ?zzk3 ?_; (case zzk1 => k_asm); (case zzk2 => k_mem); (case zzk3 => omega); k_whole))
  k_with "* subscriptTail" => (k_here; (with_reducible show wpAny _ _ (subscriptTail _ _ (Value.ref _) (Value.int _ _)) _ _ _); k_dflt (refine' my_item ?zzk1 ?zzk2 ?zzk4 ?zzk5 ?zzk6 ?_ ?zzk7; (case zzk1 => k_asm); (case zzk2 => k_mem); (case zzk4 => omega); (case zzk5 => omega); (case zzk6 => omega); (case zzk7 => with_unfolding_all rfl); k_whole); intro v8 hv8)
  k_with "* my call" => (k_here; (try dsimp only [List.append_nil]); (with_reducible show wpAny _ _ (call (Value.ref 227) _) _ _ _); k_dflt (refine' RM.use (c_one _ _ _ _ _ ?zzkq) ?zzk1 ?zzk2 ?zzk3 ?zzk4 ?zzk5 ?zzkK ?zzkd ?zzku ?zzkU ?zzkI ?zzkD ?zzkP ?_); k_extra "* my sidesM"; (case zzkP => (intro rest9 hr9; exact hr9 _ (by k_mem) (by k_ne))); (case zzkq => (constructor <;> (simp only [List.length_cons, List.length_nil]; omega))); intro v9 h9 tk9 us9 ks9 n9 ho9 F9 N9 I9 K9; (try dsimp only at N9); obtain ⟨x9, t9, e9, hx9⟩ := texts_mem rfl ho9; (dsimp only [textsOf] at hx9); subst e9; clear ho9; (have hl9 : x9.length ≤ 8 := (show ∀ x ∈ _, PySem.Str.length x ≤ 8 from by decide +kernel) _ hx9); (try dsimp only); (try k_fold))
  k_with "* my enterC" => (refine wpAny_call ?_; k_dflt (refine' code_defC ?zzk1 ?zzk2 ?zzk3 ?zzk4 ?zzk5 ?zzkA ?zzkF ?zzkK ?zzk6 ?zzk7 ?zzk8 ?zzk9 ?zzkB ?zzkD ?_ ?zzc2 ?zzc3 ?zzc4; (case zzkA => exact rfl); (case zzkF => exact rfl); (case zzkK => assumption); (case zzk1 => k_asm); (case zzk2 => k_asm); (case zzk3 => k_asm); (case zzk4 => k_asm); (case zzk5 => k_asm); (case zzk6 => k_is); (case zzk7 => k_is); (case zzk8 => ktr_room); (case zzk9 => exact BindsTo.of_eq rfl); (case zzkB => exact rfl); (case zzkD => decide +kernel); (case zzc2 => exact rfl); (case zzc3 => exact rfl); (case zzc4 => exact rfl); k_whole; intro g' L' h' tk' cells' FG' F' N' Y' B' X' T' l1; (try k_lt l1); k_cells Y'; (try simp only [List.cons_append, List.nil_append] at N'); (try dsimp only); (try k_lift B'); (try k_fold)))
  k_with "* exec Assign cons ListComp" => (k_here; k_dflt (refine LCg.Assign_ListComp_U (F₀ := by k_asm) (by rfl) (by with_unfolding_all rfl) (by with_unfolding_all rfl) (by decide) (by rfl) (by decide) (by rfl) (by rfl) (by rfl) ?_))
  k_with "* CompSrc" => k_extra "my comp"
  k_with "* call builtin:str.join" => (k_here; (with_reducible show wpAny _ _ (call (Value.builtin "str.join") [Value.str _ _, Value.ref _]) _ _ _); k_dflt (refine' my_join ?zzk1 ?zzk2 ?zzk3 ?zzk4 ?zzk5 ?_; (case zzk1 => k_asm); (case zzk2 => k_mem); (case zzk3 => assumption); (case zzk4 => assumption); (case zzk5 => omega); k_whole); intro x8 t8 k8 hj8 hl8)
  trivial
theorem updF_same {d : Addr} {o : Obj} {news : List (Addr × Obj)} {g : Obj → List (Addr × Obj)} (U : UpdF d o news g) : news = g o := by
  induction U with
  | head h => rfl
  | tail h _ ih => exact congrArg _ ih
section
variable {prog : Program} {w : World} {A : Around} {h₀ : Heap} {L : Addr} {m : Str → Option Value} {env : Env} {elt : Expr} {x : Str} {scope : Scope} {cl : List (Str × Addr)} {s : Shared} {S : List (Addr × Obj) → Prop} {P : Nat → Value → Prop} {Fin : List Value → List (Addr × Obj) → Prop} {news : List (Addr × Obj)}
/-- a comprehension whose element turns the deck -/
theorem comp_deck {n : Nat} {d : Addr} {us : List Value} {ks : List Int} {c : Nat} {g : Obj → List (Addr × Obj)} (El : Value → Prop) (U : UpdF d (listOf us.toArray c) news g) (hI : IntsAre us ks) (hK : DeckOk ks)
    (turn : ∀ i v I oI C oC D m₂ ys us ks c h tk (E' : Value → Shared → Prop), P i v → IntsAre us ks → DeckOk ks → LCg.NsObj oC m₂ → m₂ x = some v → Fr h₀ L h m → News h₀ L h ((I, oI) :: (C, oC) :: (D, LCg.lst ys) :: g (listOf us.toArray c)) → LCg.Off3 I C D (g (listOf us.toArray c)) → ((@Ne Nat I C) ∧ (@Ne Nat I D) ∧ (@Ne Nat C D)) →
      wpAny (model prog w) A (eval elt (compEnvC scope cl C env)) (LCg.CompEnd h₀ L m { s with heap := h, toks := tk } I oI C oC D (LCg.lst ys) S (fun y news' => El y ∧ ∃ us ks c, news' = g (listOf us.toArray c) ∧ IntsAre us ks ∧ DeckOk ks)) E' { s with heap := h, toks := tk })
    (fin : ∀ ys us ks c, ys.length = n → (∀ y ∈ ys, El y) → IntsAre us ks → DeckOk ks → Fin ys (g (listOf us.toArray c))) : LCg.CompRest prog w A h₀ L m env elt x scope cl s S P Fin n 0 [] news := by
  have e0 := updF_same U
  have key : ∀ (j i : Nat) (ys : List Value) us ks c, i + j = n → ys.length = i → (∀ y ∈ ys, El y) → IntsAre us ks → DeckOk ks → LCg.CompRest prog w A h₀ L m env elt x scope cl s S P Fin j i ys (g (listOf us.toArray c)) := by
    intro j
    induction j with
    | zero =>
      intro i ys us ks c hi hl hy hI hK
      exact LCg.CompRest.zero (fin ys us ks c (by omega) hy hI hK)
    | succ j ih =>
      intro i ys us ks c hi hl hy hI hK
      refine LCg.CompRest.succ ?_
      intro v I oI C oC D m₂ h tk E' hv hC hx F N off ne
      refine wpAny_mono (turn i v I oI C oC D m₂ ys us ks c h tk E' hv hI hK hC hx F N off ne) (fun y s₂ hq => ?_) fun _ _ e => e
      obtain ⟨h', tk', nw, e, F', N', off', hS, hel, us', ks', c', rfl, hI', hK'⟩ := hq
      refine ⟨h', tk', _, e, F', N', off', hS, ih (i + 1) _ us' ks' c' (by omega) (by simp [hl]) ?_ hI' hK'⟩
      intro z hz
      rcases List.mem_append.mp hz with hz | hz
      · exact hy z hz
      · rw [List.mem_singleton.mp hz]; exact hel
  rw [e0]
  exact key n 0 [] us ks c (by omega) rfl (fun _ h => nomatch h) hI hK
end
noncomputable def words6 : List Str := [Str.ofString "Ab", Str.ofString "c", Str.ofString "d.e", Str.ofString "x. y", Str.ofString "(f", Str.ofString "g!h"]
noncomputable def tails7 : List Str := [Str.ofString ".", Str.ofString "?", Str.ofString "!", Str.ofString ".)", Str.ofString "!\"", Str.ofString ".'}", Str.ofString "?]"]
noncomputable def IsTextOf (l : List Str) (v : Value) : Prop := ∃ x t, v = .str x t ∧ x ∈ l
/-- so many words, put together by single spaces -/
noncomputable def Joined (n : Nat) (x : Str) : Prop := ∃ ws : List Str, ws.length = n ∧ (∀ y ∈ ws, y ∈ words6) ∧ x = Txt.join (Str.ofString " ") ws
theorem strs_of {l : List Str} : ∀ {ys : List Value}, (∀ y ∈ ys, IsTextOf l y) → ∃ ws, StrsAre ys ws ∧ ∀ x ∈ ws, x ∈ l
  | [], _ => ⟨[], .nil, fun _ h => nomatch h⟩
  | y :: r, h => by
    obtain ⟨x, t, rfl, hx⟩ := h y (.head _)
    obtain ⟨ws, h1, h2⟩ := strs_of (ys := r) fun z hz => h z (.tail _ hz)
    exact ⟨x :: ws, .cons x t h1, fun z hz => by rcases List.mem_cons.mp hz with rfl | hz; exact hx; exact h2 z hz⟩
noncomputable def textsOf : List Value → List Str
  | [] => []
  | .str x _ :: r => x :: textsOf r
  | _ :: r => textsOf r
noncomputable def allTexts : List Value → Bool
  | [] => true
  | .str _ _ :: r => allTexts r
  | _ :: _ => false
theorem texts_mem {v : Value} : ∀ {vs : List Value}, allTexts vs = true → v ∈ vs → IsTextOf (textsOf vs) v
  | .str x t :: r, h, hv => by
    rcases List.mem_cons.mp hv with rfl | hv
    · exact ⟨x, t, rfl, .head _⟩
    · obtain ⟨y, u, e, hy⟩ := texts_mem (vs := r) h hv
      exact ⟨y, u, e, .tail _ hy⟩
/-- a sentence, with or without its stop -/
noncomputable def Sent (b : Bool) (x : Str) : Prop := ∃ (n : Nat) (y : Str), 1 ≤ n ∧ n ≤ 3 ∧ Joined n y ∧ ((b = false ∧ x = y ++ Str.ofString " z") ∨ (b = true ∧ ∃ tl ∈ tails7, x = y ++ Str.ofString " z" ++ tl))
noncomputable def SentOut (b : Bool) (v : Value) : Prop := ∃ x t, v = .str x t ∧ x.length ≤ 40 ∧ Sent b x
theorem words_len {x : Str} (h : x ∈ words6) : x.length ≤ 4 := by
  have : ∀ x ∈ words6, x.length ≤ 4 := by decide +kernel
  exact this x h
theorem sum_words : ∀ {ws : List Str}, (∀ x ∈ ws, x ∈ words6) → (ws.map (·.length)).sum ≤ 4 * ws.length
  | [], _ => Nat.le_refl _
  | x :: r, h => by
    have h1 := words_len (h x (.head _))
    have h2 := sum_words (ws := r) fun z hz => h z (.tail _ hz)
    simp only [List.map_cons, List.sum_cons, List.length_cons]; omega
theorem join_len (sep : Str) : ∀ ws : List Str, (Str.join sep ws).length ≤ (ws.map (·.length)).sum + ws.length * sep.length
  | [] => by rw [join_nil]; simp [Str.length, Str.empty]
  | [x] => by rw [join_one]; simp
  | x :: y :: r => by
    have h := join_len sep (y :: r)
    rw [join_cons_cons, Str.length_append, Str.length_append]
    simp only [List.map_cons, List.sum_cons, List.length_cons] at *
    rw [Nat.succ_mul]
    omega
theorem joined_len {n : Nat} {x : Str} (h : Joined n x) : x.length ≤ 5 * n := by
  obtain ⟨ws, h1, h2, rfl⟩ := h
  have h3 : Txt.join (Str.ofString " ") ws = Str.join (Str.ofString " ") ws := StrLaws.glued_eq_join ..
  have h4 := join_len (Str.ofString " ") ws
  have h5 : (Str.ofString " ").length = 1 := by decide
  have h6 := sum_words h2
  rw [h3]
  rw [h5] at h4
  omega
theorem tails_len {x : Str} (h : x ∈ tails7) : x.length ≤ 3 := by
  have : ∀ x ∈ tails7, x.length ≤ 3 := by decide +kernel
  exact this x h
theorem z_len : (Str.ofString " z").length = 2 := by decide
theorem sent_true {n : Nat} {y tl : Str} {t : Tok} (hj : Joined n y) (ht : tl ∈ tails7) (h1 : 1 ≤ n) (h2 : n ≤ 3) : SentOut true (.str (y ++ Str.ofString " z" ++ tl) t) := by
  have a := joined_len hj
  have b := tails_len ht
  exact ⟨_, _, rfl, by rw [Str.length_append, Str.length_append, z_len]; omega, n, y, h1, h2, hj, .inr ⟨rfl, tl, ht, rfl⟩⟩
theorem sent_false {n : Nat} {y : Str} {t : Tok} (hj : Joined n y) (h1 : 1 ≤ n) (h2 : n ≤ 3) : SentOut false (.str (y ++ Str.ofString " z") t) := by
  have a := joined_len hj
  exact ⟨_, _, rfl, by rw [Str.length_append, z_len]; omega, n, y, h1, h2, hj, .inl ⟨rfl, rfl⟩⟩
section
variable {prog : Program} {w : World} {A : Around} {E : Value → Shared → Prop} {s : Shared} {h₀ : Heap} {L D : Addr} {news : List (Addr × Obj)} {t : Tok}
theorem my_join {ys : List Value} {n : Nat} {Q : Value → Shared → Prop} (N : News h₀ L s.heap news) (hm : (D, LCg.lst ys) ∈ news) (hel : ∀ y ∈ ys, IsTextOf words6 y) (hl : ys.length = n) (hn : n ≤ 3)
    (h : ∀ x t' k, Joined n x → x.length ≤ 15 → Q (.str x t') { s with toks := k }) : wpAny (model prog w) A (call (.builtin "str.join") [.str (Str.ofString " ") t, .ref D]) Q E s := by
  obtain ⟨ws, h1, h2⟩ := strs_of hel
  have hlen : ws.length = n := by rw [← hl]; exact h1.length.symm
  have h6 := sum_words h2
  have hj : Joined n (Txt.join (Str.ofString " ") ws) := ⟨ws, hlen, h2, rfl⟩
  have hb := joined_len hj
  refine join_listW (x := Str.ofString " ") (PySem.IsL.isList (n := ys.length) (N _ hm).1) (by simpa using h1) (by decide) (by omega) fun t' k => h _ t' k hj (by omega)
end
set_option maxRecDepth 100000
set_option maxHeartbeats 8000000
theorem c_sentence (w : World) (d : Addr) (b : Bool) : RM w 237 3 d [.ref d, .bool b] (fun _ => True) (SentOut b) := by
  unfold RM
  k_fill
  intro mean mg mb dp un gd cn cs a ccd cl outer A₀ base h₀ L m rest s Q E us ks n B F X N T hk hdp hun hne hI hK hP hret
  have hvl := IntsAre.length hI
  have hMk : KstMark := kstMark
  k_extra "* my enterC"
  k_with "my comp" => (
    k_dflt (refine LCg.CompSrc.range (by rfl) (by k_asm) (by k_asm) (by assumption) (small_one (by omega) (by omega) (by omega) (by omega)) (rangeSize_nat _ _) (by rw [PySem.sizeLine_eq]; omega) ?_)
    intro g'
    k_dflt (refine' comp_deck (d := d) (IsTextOf words6) ?cU ?cI ?cK ?cT ?cF)
    k_dflt (case cU => k_updF)
    k_dflt (case cI => with_reducible assumption)
    k_dflt (case cK => assumption)
    (case' cT => (intro i v I oI C oC D m2 ys us2 ks2 c2 h2 tk2 E2 hv hI2 hK2 hC hx F2 N2 off2 ne2; (try dsimp only at N2); (try dsimp only at off2); (try (simp only [LCg.Off3, and_true] at off2)); obtain ⟨tv, hv⟩ := hv))
    (case' cF => (intro ys us2 ks2 c2 hys hel hI2 hK2; (try dsimp only)))
    all_goals (try k_fold))
  k_steps
  · subst b
    exact hret _ _ _ _ _ _ (sent_true (by assumption) (by assumption) (by omega) (by omega)) (by k_asm) (cb_drop (by k_asm) (by kcf_all)) (by assumption) (by assumption)
  · subst b
    exact hret _ _ _ _ _ _ (sent_false (by assumption) (by omega) (by omega)) (by k_asm) (cb_drop (by k_asm) (by kcf_all)) (by assumption) (by assumption)
  · refine' LCg.CompEnd.intro (by assumption) (by assumption) _ ?sub ?off trivial ⟨⟨_, _, rfl, by assumption⟩, _, _, _, rfl, by assumption, by assumption⟩
    case sub => kcf_all
    case off => (simp only [LCg.Off3, and_true]; assumption)
end
section
open PySem PySem.W PyProof.Rows PySem.Calls
theorem reset_W5 : True := by
  w_top off
  k_with_none
  k_with "* my enter" => (refine wpAny_call ?_; k_dflt cell_enter)
  k_with "* my enterC" => (refine wpAny_call ?_; k_dflt (refine' code_defC ?zzk1 ?zzk2 ?zzk3 ?zzk4 ?zzk5 ?zzkA ?zzkF ?zzkK ?zzk6 ?zzk7 ?zzk8 ?zzk9 ?zzkB ?zzkD ?_ ?zzc2 ?zzc3 ?zzc4; (case zzkA => exact rfl); (case zzkF => exact rfl); (case zzkK => assumption); (case zzk1 => k_asm); (case zzk2 => k_asm); (case zzk3 => k_asm); (case zzk4 => k_asm); (case zzk5 => k_asm); (case zzk6 => k_is); (case zzk7 => k_is); (case zzk8 => ktr_room); (case zzk9 => exact BindsTo.of_eq rfl); (case zzkB => exact rfl); (case zzkD => decide +kernel); (case zzc2 => exact rfl); (case zzc3 => exact rfl); (case zzc4 => exact rfl); k_whole; intro g' L' h' tk' cells' FG' F' N' Y' B' X' T' l1; (try k_lt l1); k_cells Y'; (try simp only [List.cons_append, List.nil_append] at N'); (try dsimp only); (try k_lift B'); (try k_fold)))
  k_with "* binaryOp Pow int int" => (k_here; k_dflt (refine pow_forget ?zzk2 ?_; (case zzk2 => first | exact Or.inl rfl | exact Or.inr rfl); k_whole); intro P8 t8 k8 hP80; (try dsimp only))
  k_with "* binaryOp Mod int int" => (k_here; k_dflt (refine mod_forget ?zzk1 ?_; (case zzk1 => omega); k_whole); intro r8 t8 k8 hr80 hr81; (try dsimp only))
  k_with "* binaryOp Mod int int" => (k_here; k_dflt (refine mod_big ?zzk1 ?_; (case zzk1 => with_reducible assumption); k_whole); intro r8 t8 k8 hr80; (try dsimp only))
  k_with "* subscriptTail Name Slice ref ref" => (k_here; (with_reducible show wpAny _ _ (subscriptTail _ (PySem.Expr.Slice _ _ none _) (Value.ref _) (Value.ref _)) _ _ _); k_dflt (refine' slice_forget ?zzF ?zzN ?zzl ?zzi ?zzy ?zzn ?_ ?zzs ?zzt; (case zzF => k_asm); (case zzN => k_asm); (case zzl => kmk_list); (case zzi => l_ints); (case zzy => decide); (case zzn => omega); (case zzs => with_unfolding_all rfl); (case zzt => kmk_pure)); intro D' ws' ms' h' F' N' l1 hI' hC'; (try k_lt l1); (try k_sweep))
  k_with "* eval ListComp" => (k_here; k_dflt (refine LCt.ListComp_T (F₀ := by k_asm) (by with_unfolding_all rfl) (by decide) (by rfl) (by decide) (by rfl) ?_))
  k_with "* binaryOp Add ref ref" => (k_here; k_dflt (refine' my_cat ?zzF ?zzN ?zza ?zzb ?zzi ?zzn ?_; (case zzF => k_asm); (case zzN => k_asm); (case zza => k_mem); (case zzb => k_mem); (case zzi => with_reducible assumption); (case zzn => (rename InDeck _ _ => hD9; (have := hD9.1); omega))); intro D' ws' h' F' N' l1 hI'; (try k_lt l1))
  k_with "* CompSrcT" => k_extra "my compT"
  trivial
noncomputable def BigOk (P : Int) : Prop := 0 < P ∧ P ≤ 10 ^ 60
noncomputable def InBig (r : Int) : Prop := 0 ≤ r ∧ r < 10 ^ 60
theorem big60 : BigOk ((10 : Int) ^ (60 : Int).toNat) := by unfold BigOk; decide
theorem big9 : BigOk ((10 : Int) ^ (9 : Int).toNat) := by unfold BigOk; decide
section
variable {prog : Program} {w : World} {A : Around} {E : Value → Shared → Prop} {s : Shared}
theorem pow_forget {t u : Tok} {y : Int} {Q : Value → Shared → Prop} (hy : y = 60 ∨ y = 9) (h : ∀ P t' k, BigOk P → Q (.int P t') { s with toks := k }) : wpAny (model prog w) A (binaryOp .Pow (.int 10 t) (.int y u)) Q E s := by
  rcases hy with rfl | rfl
  · exact pow_int_small (by omega) (by omega) (by decide) (h _ _ _ big60)
  · exact pow_int_small (by omega) (by omega) (by decide) (h _ _ _ big9)
theorem mod_forget {x y : Int} {t u : Tok} {Q : Value → Shared → Prop} (hy : 0 < y) (h : ∀ r t' k, 0 ≤ r → r < y → Q (.int r t') { s with toks := k }) : wpAny (model prog w) A (binaryOp .Mod (.int x t) (.int y u)) Q E s :=
  mod_int' (by omega) (h _ _ _ (fmod_in (by omega)).1 (fmod_in (by omega)).2)
theorem mod_big {x y : Int} {t u : Tok} {Q : Value → Shared → Prop} (hy : BigOk y) (h : ∀ r t' k, InBig r → Q (.int r t') { s with toks := k }) : wpAny (model prog w) A (binaryOp .Mod (.int x t) (.int y u)) Q E s := by
  have h1 := fmod_in (x := x) (many := y) (by have := hy.1; omega)
  exact mod_int' (by have := hy.1; omega) (h _ _ _ ⟨h1.1, Int.lt_of_lt_of_le h1.2 hy.2⟩)
end
section
variable {prog : Program} {w : World} {A : Around} {E : Value → Shared → Prop} {s : Shared} {h₀ : Heap} {L : Addr} {m : Str → Option Value} {news : List (Addr × Obj)}
theorem slice_forget {value slice : PySem.Expr} {l : Addr} {vs : List Value} {ns : List Int} {y : Int} {t : Tok} {Q : Value → Shared → Prop} (F : Fr h₀ L s.heap m) (N : News h₀ L s.heap news) (hl : s.heap.IsList l vs.toArray) (hi : IntsAre vs ns) (hy : 0 ≤ y) (hn : ns.length ≤ 63)
    (h : ∀ D ws ms h', Fr h₀ L h' m → News h₀ L h' ((D, listOf (List.toArray ws) 0) :: news) → (∀ p ∈ news, p.1 < D) → IntsAre ws ms → (ms.length : Int) ≤ y → Q (.ref D) { s with heap := h' })
    (hs : subscripted slice false (.ref l) (.ref s.heap.objs.size) = operate [.ref s.heap.objs.size, .ref l] (getItem (.ref l) (.ref s.heap.objs.size))) (ht : ∀ r, letTemporaryGo value (.ref l) r = pure ()) :
    wpAny (model prog w) A (subscriptTail value slice (.ref l) (.ref s.heap.objs.size)) Q E { s with heap := s.heap.push { cls := .type "slice", data := .fields #[.none, .int y t, .none] } } := by
  refine kmk_slice_ints F N hl .none (.int y t) hi (kmk_upto hi hy) rfl (fun D ws h' F' N' l1 hI' hC' hL' => h D ws _ h' F' N' l1 hI' ?_) hs ht ?_
  · rw [List.length_take]; omega
  · rw [List.size_toArray, hi.length, sizeLine_eq]; omega
end
section
open PyProof.Rows
variable {prog : Program} {w : World} {A : Around} {h₀ : Heap} {L : Addr} {m : Str → Option Value} {env : Env} {ct elt : Expr} {x : Str} {scope : Scope} {cl : List (Str × Addr)} {s : Shared} {S : List (Addr × Obj) → Prop} {P : Nat → Value → Prop} {Fin : List Value → List (Addr × Obj) → Prop} {news : List (Addr × Obj)}
/-- a comprehension with a test: G keeps the items' ints -/
theorem comp_gen {n : Nat} {ks : List Int} (R : List Int → List Int → Prop) (hks : ks.length = n) (hP : ∀ i v, i < n → P i v → ∃ k t, ks[i]? = some k ∧ v = .int k t) (hR0 : R [] [])
    (turn : ∀ k t I oI C oC D m₂ ys l pre h tk (E' : Value → Shared → Prop), k ∈ ks → IntsAre ys l → R pre l → LCg.NsObj oC m₂ → m₂ x = some (.int k t) → Fr h₀ L h m → News h₀ L h ((I, oI) :: (C, oC) :: (D, LCg.lst ys) :: news) → LCg.Off3 I C D news → ((@Ne Nat I C) ∧ (@Ne Nat I D) ∧ (@Ne Nat C D)) →
      wpAny (model prog w) A (isTrue ct (compEnvC scope cl C env) (eval ct (compEnvC scope cl C env))) (fun b s' => if b = true then wpAny (model prog w) A (eval elt (compEnvC scope cl C env)) (LCg.CompEnd h₀ L m { s with heap := h, toks := tk } I oI C oC D (LCg.lst ys) S (fun y news' => news' = news ∧ ∃ a t, y = .int a t ∧ R (pre ++ [k]) (l ++ [a]))) E' s'
        else LCg.CompEnd h₀ L m { s with heap := h, toks := tk } I oI C oC D (LCg.lst ys) S (fun _ news' => news' = news ∧ R (pre ++ [k]) l) Value.none s') E' { s with heap := h, toks := tk })
    (fin : ∀ ys l, IntsAre ys l → R ks l → Fin ys news) : LCt.CompRestT prog w A h₀ L m env ct elt x scope cl s S P Fin n 0 [] news := by
  have key : ∀ (j i : Nat) (ys : List Value) (l : List Int), i + j = n → IntsAre ys l → R (ks.take i) l → LCt.CompRestT prog w A h₀ L m env ct elt x scope cl s S P Fin j i ys news := by
    intro j
    induction j with
    | zero =>
      intro i ys l hi hy hr
      have e : i = ks.length := by omega
      subst e
      rw [List.take_length] at hr
      exact LCt.CompRestT.zero (fin ys l hy hr)
    | succ j ih =>
      intro i ys l hi hy hr
      refine LCt.CompRestT.succ ?_
      intro v I oI C oC D m₂ h tk E' hv hC hx F N off ne
      obtain ⟨k, t, hk, hv'⟩ := hP i v (by omega) hv
      rw [hv'] at hx
      have hs : ks.take (i + 1) = ks.take i ++ [k] := by rw [List.take_add_one, hk]; rfl
      refine wpAny_mono (turn k t I oI C oC D m₂ ys l _ h tk E' (List.mem_of_getElem? hk) hy hr hC hx F N off ne) (fun b s₂ hq => ?_) fun _ _ e => e
      cases b with
      | true =>
        simp only [if_true] at hq ⊢
        refine wpAny_mono hq (fun y s₃ hr => ?_) fun _ _ e => e
        obtain ⟨h', tk', nw, e, F', N', off', hS, hn, a, t', hy', hr'⟩ := hr
        rw [hn] at N' off' hS
        refine ⟨h', tk', news, e, F', N', off', hS, ?_⟩
        rw [hy']
        exact ih (i + 1) _ (l ++ [a]) (by omega) (IntsAre.append hy (.cons a t' .nil)) (by rw [hs]; exact hr')
      | false =>
        simp only [Bool.false_eq_true, if_false] at hq ⊢
        obtain ⟨h', tk', nw, e, F', N', off', hS, hn, hr'⟩ := hq
        rw [hn] at N' off' hS
        exact ⟨h', tk', news, e, F', N', off', hS, ih (i + 1) _ l (by omega) hy (by rw [hs]; exact hr')⟩
  exact key n 0 [] [] (by omega) .nil (by simpa using hR0)
theorem comp_list {vs : List Value} {ns : List Int} (R : List Int → List Int → Prop) (hi : IntsAre vs ns) (hR0 : R [] [])
    (turn : ∀ k t I oI C oC D m₂ ys l pre h tk (E' : Value → Shared → Prop), k ∈ ns → IntsAre ys l → R pre l → LCg.NsObj oC m₂ → m₂ x = some (.int k t) → Fr h₀ L h m → News h₀ L h ((I, oI) :: (C, oC) :: (D, LCg.lst ys) :: news) → LCg.Off3 I C D news → ((@Ne Nat I C) ∧ (@Ne Nat I D) ∧ (@Ne Nat C D)) →
      wpAny (model prog w) A (isTrue ct (compEnvC scope cl C env) (eval ct (compEnvC scope cl C env))) (fun b s' => if b = true then wpAny (model prog w) A (eval elt (compEnvC scope cl C env)) (LCg.CompEnd h₀ L m { s with heap := h, toks := tk } I oI C oC D (LCg.lst ys) S (fun y news' => news' = news ∧ ∃ a t, y = .int a t ∧ R (pre ++ [k]) (l ++ [a]))) E' s'
        else LCg.CompEnd h₀ L m { s with heap := h, toks := tk } I oI C oC D (LCg.lst ys) S (fun _ news' => news' = news ∧ R (pre ++ [k]) l) Value.none s') E' { s with heap := h, toks := tk })
    (fin : ∀ ys l, IntsAre ys l → R ns l → Fin ys news) : LCt.CompRestT prog w A h₀ L m env ct elt x scope cl s S (fun i v => vs.toArray[i]? = some v) Fin vs.toArray.size 0 [] news :=
  comp_gen (ks := ns) R (by rw [List.size_toArray]; exact hi.length.symm) (fun i v _ hv => by
    obtain ⟨k, t, e, hk⟩ := IntsAre.at hi i v (by simpa using hv)
    exact ⟨k, t, hk, e⟩) hR0 turn fin
end
/-- the script's own call: a new deck -/
noncomputable def RD (w : World) (f : Addr) (D : Nat) (sc : Addr) (svs : List Value) (sns : List Int) : Prop :=
  ∀ (mean : ExcName → Option Value) (mg mb : Str → Option Value) (dp un : Nat) (gd : Option (List Code)) (cn : Str) (cs : Scope) (a : Addr) (ccd : Value) (cl : List (Str × Addr)) (outer : List Env) (A₀ : Around) (base h₀ : Heap) (L : Addr) (m : Str → Option Value) (news : List (Addr × Obj)) (s : Shared) (Q E : Value → Shared → Prop),
    Below A₀ base outer h₀ → Fr h₀ L s.heap m → (Mine.hd.heap_39 w.params).In h₀ → News h₀ L s.heap news → Top Mine.hd.view_39 (looseW Mine.hd.view_39 [Str.ofString "PARTING", Str.ofString "SPACES"]) mean mg mb h₀ → cs.kind = .function → dp + D < recursionLimit → un + 8 * D < cLine →
    base.IsList sc svs.toArray → IntsAre svs sns → sns.length ≤ 63 →
    (∀ (q : Addr) (h' : Heap) (tk' : Nat) (us' : List Value) (ks' : List Int) (n' : Nat), Fr h₀ L h' m → News h₀ L h' ((q, listOf us'.toArray n') :: news) → (∀ p ∈ news, p.1 < q) → IntsAre us' ks' → DeckOk ks' → Q (.ref q) { s with heap := h', toks := tk' }) →
    wpAny (model PySem.Challenge.rw_np0037_01.row.prog w) (ktrTop dp un gd cn cs L a ccd cl outer) (call (.ref f) [.ref sc]) Q E s
theorem RD.use {w : World} {f : Addr} {D : Nat} {sc : Addr} {svs : List Value} {sns : List Int} (C : RD w f D sc svs sns)
    {mean : ExcName → Option Value} {mg mb : Str → Option Value} {dp un : Nat} {gd : Option (List Code)} {cn : Str} {cs : Scope} {a : Addr} {ccd : Value} {cl : List (Str × Addr)} {outer : List Env} {A₀ : Around} {base h₀ : Heap} {L : Addr} {m : Str → Option Value} {news : List (Addr × Obj)} {s : Shared} {Q E : Value → Shared → Prop}
    (B : Below A₀ base outer h₀) (F : Fr h₀ L s.heap m) (X : (Mine.hd.heap_39 w.params).In h₀) (N : News h₀ L s.heap news) (T : Top Mine.hd.view_39 (looseW Mine.hd.view_39 [Str.ofString "PARTING", Str.ofString "SPACES"]) mean mg mb h₀) (hk : cs.kind = .function) (hd : dp + D < recursionLimit) (hu : un + 8 * D < cLine)
    (hL : base.IsList sc svs.toArray) (hI : IntsAre svs sns) (hn : sns.length ≤ 63)
    (ret : ∀ (q : Addr) (h' : Heap) (tk' : Nat) (us' : List Value) (ks' : List Int) (n' : Nat), Fr h₀ L h' m → News h₀ L h' ((q, listOf us'.toArray n') :: news) → (∀ p ∈ news, p.1 < q) → IntsAre us' ks' → DeckOk ks' → Q (.ref q) { s with heap := h', toks := tk' }) :
    wpAny (model PySem.Challenge.rw_np0037_01.row.prog w) (ktrTop dp un gd cn cs L a ccd cl outer) (call (.ref f) [.ref sc]) Q E s :=
  C mean mg mb dp un gd cn cs a ccd cl outer A₀ base h₀ L m news s Q E B F X N T hk hd hu hL hI hn ret
noncomputable def InDeck (pre l : List Int) : Prop := l.length ≤ pre.length ∧ ∀ d ∈ l, InBig d
theorem inDeck_yes {pre l : List Int} {k a : Int} (h : InDeck pre l) (h0 : InBig a) : InDeck (pre ++ [k]) (l ++ [a]) := by
  refine ⟨by simp only [List.length_append, List.length_singleton]; have := h.1; omega, fun d hd => ?_⟩
  rcases List.mem_append.mp hd with hd | hd
  · exact h.2 d hd
  · rw [List.mem_singleton.mp hd]; exact h0
theorem inDeck_no {pre l : List Int} {k : Int} (h : InDeck pre l) : InDeck (pre ++ [k]) l := ⟨by simp only [List.length_append, List.length_singleton]; have := h.1; omega, h.2⟩
section
variable {prog : Program} {w : World} {A : Around} {E : Value → Shared → Prop} {s : Shared} {h₀ : Heap} {L : Addr} {m : Str → Option Value} {news : List (Addr × Obj)}
theorem my_cat {a b : Addr} {ys : List Value} {l : List Int} {x : Int} {t : Tok} {n : Nat} {Q : Value → Shared → Prop} (F : Fr h₀ L s.heap m) (N : News h₀ L s.heap news) (ha : (a, LCg.lst ys) ∈ news) (hb : (b, listOf #[.int x t] n) ∈ news) (hi : IntsAre ys l) (hl : l.length ≤ 100)
    (h : ∀ D ws h', Fr h₀ L h' m → News h₀ L h' ((D, listOf (List.toArray ws) 0) :: news) → (∀ p ∈ news, p.1 < D) → IntsAre ws (l ++ [x]) → Q (.ref D) { s with heap := h' }) :
    wpAny (model prog w) A (binaryOp .Add (.ref a) (.ref b)) Q E s :=
  kmk_add_ints F N (PySem.IsL.isList (n := ys.length) (N _ ha).1) (PySem.IsL.isList (n := n) (N _ hb).1) hi (IntsAre.cons x t .nil) h (by rw [sizeLine_eq]; simp; omega)
end
theorem deck_of_cat {pre l : List Int} {x : Int} (h : InDeck pre l) (hp : (pre.length : Int) ≤ 24) (h0 : 0 ≤ x) (h1 : x < 2147483647) : DeckOk (l ++ [x]) := by
  refine ⟨by simp, by have := h.1; simp; omega, fun d hd => ?_⟩
  rcases List.mem_append.mp hd with hd | hd
  · exact h.2 d hd
  · rw [List.mem_singleton.mp hd]; exact ⟨h0, by omega⟩
set_option maxRecDepth 100000
set_option maxHeartbeats 8000000
theorem c_deck_of (w : World) (sc : Addr) (svs : List Value) (sns : List Int) : RD w 220 1 sc svs sns := by
  unfold RD
  k_fill
  intro mean mg mb dp un gd cn cs a ccd cl outer A₀ base h₀ L m news s Q E B F X N T hk hdp hun hL hI hlen hret
  have hvl := IntsAre.length hI
  have hMk : KstMark := kstMark
  k_extra "* my enter"
  k_with "pyIter ref" => k_state (fun pre k => 0 ≤ k ∧ k < 2147483647) "_law_mixed"
  k_with "my compT" => (
    k_dflt (refine LCt.CompSrcT.ledger (by rfl) (by k_asm) (by k_asm) (by k_mem) (by kmk_size) ?_)
    intro g'
    k_dflt (refine' comp_list InDeck ?cI ⟨Nat.le_refl _, fun _ h => nomatch h⟩ ?cT ?cF)
    k_dflt (case cI => with_reducible assumption)
    (case' cT => (intro k t I oI C oC D m2 ys l pre h2 tk2 E2 hk2 hy2 hR2 hC hx F2 N2 off2 ne2; (try dsimp only at N2); (try dsimp only at off2); (try (simp only [LCg.Off3, and_true] at off2))))
    (case' cF => (intro ys l hy2 hR2; (try dsimp only)))
    all_goals (try k_fold))
  k_with "state" => (first | exact ⟨by omega, by omega⟩)
  k_steps
  · (rename (_ ∧ _ ∧ _ ∧ _ ∧ AllLt _ news) => l9)
    exact hret _ _ _ _ _ _ (by k_asm) (cb_drop (by k_asm) (by kcf_all)) (fun p hp => kst_ltOf l9.2.2.2.2 p hp) (by assumption) (deck_of_cat (by assumption) (by assumption) (by assumption) (by assumption))
  · refine' LCg.CompEnd.intro (by assumption) (by assumption) _ ?sub ?off ?S ⟨rfl, _, _, rfl, inDeck_yes hR2 (by assumption)⟩
    case sub => kcf_all
    case off => (simp only [LCg.Off3, and_true]; assumption)
    case S => exact Or.inr ⟨_, by k_mem, rfl, _, rfl⟩
  · refine' LCg.CompEnd.intro (by assumption) (by assumption) _ ?sub ?off ?S ⟨rfl, inDeck_no hR2⟩
    case sub => kcf_all
    case off => (simp only [LCg.Off3, and_true]; assumption)
    case S => exact Or.inr ⟨_, by k_mem, rfl, _, rfl⟩
end
section
open PySem PySem.W PyProof.Rows PySem.Calls PySem.Spec
set_option maxRecDepth 100000
/-- a text's signs as ints -/
noncomputable def codes (x : Str) : List Int := x.cps.toList.map fun (c : Nat) => (c : Int)
section
variable {prog : Program} {w : World} {A : Around} {E : Value → Shared → Prop} {s : Shared} {h₀ : Heap} {L : Addr} {m : Str → Option Value} {env : Env}
open LCg
noncomputable def SrcS (prog : Program) (w : World) (A : Around) (h₀ : Heap) (L : Addr) (m : Str → Option Value) (env : Env) (elt : Expr) (x : Str) (scope : Scope) (cl : List (Str × Addr)) (Fin : Shared → List Value → List (Addr × Obj) → Prop) (xv : Value) (s₁ : Shared) : Prop :=
  ∃ tx t news, xv = .str tx t ∧ A.handled = none ∧ Fr h₀ L s₁.heap m ∧ News h₀ L s₁.heap news ∧ tx.cps.size ≤ sizeLine ∧
    ∀ s₂ : Shared, (∃ h, s₂ = { s₁ with heap := h }) → CompRest prog w A h₀ L m env elt x scope cl s₂ (fun _ => True) (SignAt tx) (Fin s₂) tx.cps.size 0 [] news
theorem SrcS.intro {elt : Expr} {x : Str} {scope : Scope} {cl : List (Str × Addr)} {Fin : Shared → List Value → List (Addr × Obj) → Prop} {tx : Str} {t : Tok} {news : List (Addr × Obj)} {s₁ : Shared} (hh : A.handled = none) (F : Fr h₀ L s₁.heap m) (N : News h₀ L s₁.heap news) (hsz : tx.cps.size ≤ sizeLine)
    (h : ∀ g, CompRest prog w A h₀ L m env elt x scope cl { s₁ with heap := g } (fun _ => True) (SignAt tx) (Fin { s₁ with heap := g }) tx.cps.size 0 [] news) : SrcS prog w A h₀ L m env elt x scope cl Fin (.str tx t) s₁ :=
  ⟨tx, t, news, rfl, hh, F, N, hsz, fun _ ⟨g, e⟩ => e ▸ h g⟩
theorem strIter_st {I : Addr} {T : String} {tx : Str} {t : Tok} : ∀ i (h h' : Heap) (o : Obj) (nw : List (Addr × Obj)), h.IsStrIter I T tx t i → h.get? I = some o → h'.get? I = some o → (∀ b o, h₀.get? b = some o → h'.get? b = some o) → News h₀ L h' nw → True → h'.IsStrIter I T tx t i :=
  fun i h h' o nw st e e' k N S => by obtain ⟨o', q, r⟩ := st; rw [e] at q; cases q; exact ⟨o, e', r⟩
theorem ListComp_S {elt iter : Expr} {x : Str} {px : Pos} {scope : Scope} {cl : List (Str × Addr)} {pos : Pos} {Q : Value → Shared → Prop} (F₀ : Fr h₀ L s.heap m)
    (hclos : closureFor scope env = pure cl) (hcell : ∀ y ∈ scope.names, y.2 ≠ .cell) (hkind : scope.kind = .function)
    (hnames : ∀ y ∈ scope.names, y.2 = .local → scope.names.lookup y.1 = some .local) (hx : scope.names.lookup x = some .local)
    (h : wpAny (model prog w) A (eval iter env) (SrcS prog w A h₀ L m env elt x scope cl (fun s₂ => FinE h₀ L m s₂ Q)) E s)
    (hs : ∀ x, foldedSetIterable iter env x = pure x := by intro _; rfl) :
    wpAny (model prog w) A (eval (.ListComp elt [⟨.Name x px, iter, [], 0⟩] scope pos) env) Q E s := by
  rw [eval_ListComp]
  refine wpAny_comprehension_free (use := none) rfl hs hclos hkind hnames (wpAny_mono h (fun xv s₁ h₁ => ?_) fun _ _ e => e)
  obtain ⟨tx, t, news, rfl, hh, F, N, hsz, R⟩ := h₁
  have go : ∀ (T : String) (o : Obj), Walks prog w A s₁.heap.objs.size [s₁.heap.objs.size] [s₁.heap.objs.size] tx.cps.size (SignAt tx) (fun i h => h.IsStrIter s₁.heap.objs.size T tx t i) → (s₁.heap.push o).IsStrIter s₁.heap.objs.size T tx t 0 →
      wpAny (model prog w) A (newList []) (fun acc s₃ => wpAny (model prog w) A (newFunctionEnv scope env.globals cl [] env.qual none .none (some env)) (fun cenv s₄ =>
        codeAny (model prog w) A (.compStart (.ListComp elt [⟨.Name x px, iter, [], 0⟩] scope pos) 0 (.ref s₁.heap.objs.size) acc { cenv with scope := relabel scope env })
          (compPost (model prog w) A E none Q acc cenv.locals) s₄) E s₃) E { s₁ with heap := s₁.heap.push o } := by
    intro T o W hst
    refine block_U W hsz (fun i h st => by obtain ⟨o, e, _⟩ := st; exact ⟨o, e⟩) strIter_st hcell hkind hx hst (fun b hb => ?_)
      (F.keeps fun _ _ e => Heap.get?_push_of_some _ e) (N.grown fun _ _ e => Heap.get?_push_of_some _ e) (Nat.ne_of_lt F.ns.lt) (next_is_new F) (fun p hp => Nat.ne_of_lt (Heap.lt_size (N p hp).1)) trivial (R _ ⟨_, rfl⟩) ?_
    · rw [List.mem_singleton.mp hb]
      show s₁.heap.objs.size < (s₁.heap.push _).objs.size
      rw [Heap.size_push]; exact Nat.lt_succ_self _
    · intro D C h tk m' ys news' F' N' o1 hn hC₀ hD₀ hCL hDL hCD offC fin
      refine ⟨m', hn, fun h'' hs'' => fin D h'' tk (F'.change hs'' hCL hC₀) (fun p hp => ?_) o1⟩
      refine ⟨hs''.extBut _ _ ?_ (N' p hp).1, (N' p hp).2⟩
      rcases List.mem_cons.mp hp with rfl | hp
      · exact Ne.symm hCD
      · exact offC p hp
  cases ha : tx.cps.all (· < 128)
  · exact wpAny_pyIter_wide ha (go "str_iterator" _ (Walks.strWide hh _ tx t) ⟨_, Heap.get?_push_size _ rfl, rfl, rfl⟩)
  · exact wpAny_pyIter_ascii ha (go "str_ascii_iterator" _ (Walks.strAscii hh _ tx t) ⟨_, Heap.get?_push_size _ rfl, rfl, rfl⟩)
theorem comp_codes {elt : Expr} {x : Str} {scope : Scope} {cl : List (Str × Addr)} {S : List (Addr × Obj) → Prop} {Fin : List Value → List (Addr × Obj) → Prop} {news : List (Addr × Obj)} {tx : Str}
    (turn : ∀ (c : Nat) u I oI C oC D m₂ ys h tk (E' : Value → Shared → Prop), NsObj oC m₂ → m₂ x = some (.str ⟨#[c]⟩ u) → Fr h₀ L h m → News h₀ L h ((I, oI) :: (C, oC) :: (D, lst ys) :: news) → Off3 I C D news → ((@Ne Nat I C) ∧ (@Ne Nat I D) ∧ (@Ne Nat C D)) →
      wpAny (model prog w) A (eval elt (compEnvC scope cl C env)) (CompEnd h₀ L m { s with heap := h, toks := tk } I oI C oC D (lst ys) S (fun y news' => news' = news ∧ ∃ t, y = .int (c : Int) t)) E' { s with heap := h, toks := tk })
    (fin : ∀ ys, IntsAre ys (codes tx) → Fin ys news) : CompRest prog w A h₀ L m env elt x scope cl s S (SignAt tx) Fin tx.cps.size 0 [] news := by
  have hlen : (codes tx).length = tx.cps.size := by simp [codes]
  have key : ∀ (j i : Nat) (ys : List Value), i + j = tx.cps.size → IntsAre ys ((codes tx).take i) → CompRest prog w A h₀ L m env elt x scope cl s S (SignAt tx) Fin j i ys news := by
    intro j
    induction j with
    | zero =>
      intro i ys hi hy
      have e : i = (codes tx).length := by omega
      rw [e, List.take_length] at hy
      exact CompRest.zero (fin ys hy)
    | succ j ih =>
      intro i ys hi hy
      refine CompRest.succ ?_
      intro v I oI C oC D m₂ h tk E' hv hC hx F N off ne
      obtain ⟨c, u, hc, rfl⟩ := hv
      refine wpAny_mono (turn c u I oI C oC D m₂ ys h tk E' hC hx F N off ne) (fun y s₂ hq => ?_) fun _ _ e => e
      obtain ⟨h', tk', nw, e, F', N', off', hS, hn, t', hy'⟩ := hq
      rw [hn] at N' off' hS
      refine ⟨h', tk', news, e, F', N', off', hS, ?_⟩
      rw [hy']
      refine ih (i + 1) _ (by omega) ?_
      have hk : (codes tx)[i]? = some (c : Int) := by simp [codes, hc]
      rw [List.take_add_one, hk]
      exact IntsAre.append hy (.cons _ t' .nil)
  exact key _ 0 [] (by omega) (by simpa using IntsAre.nil)
end
end
section
open PySem PySem.W PyProof.Rows PySem.Calls PySem.Spec
set_option maxRecDepth 100000
/-- a sentence and what follows it -/
structure It where
  s : Str
  b : Bool
  g : Str
  l : Bool
noncomputable def gaps5 : List Str := [Str.ofString "  ", Str.ofString "\t", Str.ofString "\n", Str.ofString " \n", Str.ofString "   "]
noncomputable def gaps3 : List Str := [Str.ofString "\n\n", Str.ofString "\n \n", Str.ofString "\n\n\n"]
noncomputable def It.ok (i : It) : Prop := (i.l = false ∧ i.b = true ∧ Sent true i.s ∧ i.g ∈ gaps5) ∨ (i.l = true ∧ Sent i.b i.s ∧ i.g ∈ gaps3)
noncomputable def render : List It → Str
  | [] => Str.empty
  | i :: r => i.s ++ i.g ++ render r
noncomputable def startsOf : Int → List It → List Int
  | _, [] => []
  | n, i :: r => n :: startsOf (n + i.s.length + i.g.length) r
noncomputable def endsOf : Int → List It → List Int
  | _, [] => []
  | n, i :: r => (n + i.s.length) :: endsOf (n + i.s.length + i.g.length) r
theorem render_snoc (i : It) : ∀ r : List It, render (r ++ [i]) = render r ++ i.s ++ i.g
  | [] => by simp only [List.nil_append, render, Str.empty_append]; rw [Str.append_empty]
  | j :: r => by simp only [List.cons_append, render, render_snoc i r, Str.append_assoc]
theorem startsOf_snoc (i : It) : ∀ (r : List It) (n : Int), startsOf n (r ++ [i]) = startsOf n r ++ [n + (render r).length]
  | [], n => by simp [startsOf, render, Str.length, Str.empty]
  | j :: r, n => by
    simp only [List.cons_append, startsOf, startsOf_snoc i r, render, Str.length_append]
    congr 3; simp; omega
theorem endsOf_snoc (i : It) : ∀ (r : List It) (n : Int), endsOf n (r ++ [i]) = endsOf n r ++ [n + (render r).length + i.s.length]
  | [], n => by simp [endsOf, render, Str.length, Str.empty]
  | j :: r, n => by
    simp only [List.cons_append, endsOf, endsOf_snoc i r, render, Str.length_append]
    congr 3; simp; omega
noncomputable def OpenT (its : List It) (T : Str) (S E : List Int) : Prop := T = render its ∧ S = startsOf 0 its ∧ E = endsOf 0 its ∧ ∀ i ∈ its, i.ok
noncomputable def Whole (k : Nat) (T : Str) (S E : List Int) : Prop := ∃ its, OpenT its T S E ∧ (0 < k → ∃ r i, its = r ++ [i] ∧ i.l = true)
noncomputable def Hang (its : List It) (b : Bool) (x : Str) (T : Str) (S E : List Int) : Prop := T = render its ++ x ∧ S = startsOf 0 its ++ [((render its).length : Int)] ∧ E = endsOf 0 its ++ [(T.length : Int)] ∧ Sent b x ∧ ∀ i ∈ its, i.ok
noncomputable def Half (k : Nat) (m : Int) (T : Str) (S E : List Int) : Prop := ((k : Int) < m ∧ ∃ its, OpenT its T S E) ∨ ((k : Int) = m ∧ ∃ its b x, Hang its b x T S E)
theorem whole_nil : Whole 0 (Str.ofString "") [] [] := ⟨[], ⟨rfl, rfl, rfl, fun _ h => nomatch h⟩, fun h => absurd h (Nat.lt_irrefl 0)⟩
theorem half_start {k : Nat} {m : Int} {T : Str} {S E : List Int} (h : Whole k T S E) (hm : 1 ≤ m) : Half 0 m T S E := by
  obtain ⟨its, h, _⟩ := h
  exact .inl ⟨by simp; omega, its, h⟩
theorem half_more {m : Int} {T x g : Str} {S E : List Int} {c : Int} {b : Bool} {pre : List Int} (h : Half pre.length m T S E) (hx : Sent b x) (hb : b = true) (hg : g ∈ gaps5) (hk : (pre.length : Int) + 1 < m) :
    Half (pre ++ [c]).length m (T ++ x ++ g) (S ++ [(T.length : Int)]) (E ++ [((T ++ x).length : Int)]) := by
  subst hb
  rw [List.length_append, List.length_singleton]
  rcases h with ⟨_, its, h1, h2, h3, h4⟩ | ⟨h, _⟩
  · refine .inl ⟨by omega, its ++ [⟨x, true, g, false⟩], ?_, ?_, ?_, ?_⟩
    · rw [render_snoc, h1]
    · rw [startsOf_snoc, h2, h1]; simp
    · rw [endsOf_snoc, h3, h1, Str.length_append]; simp
    · intro i hi
      rcases List.mem_append.mp hi with hi | hi
      · exact h4 i hi
      · rw [List.mem_singleton.mp hi]; exact .inl ⟨rfl, rfl, hx, hg⟩
  · omega
theorem half_last {m : Int} {T x : Str} {b : Bool} {S E : List Int} {c : Int} {pre : List Int} (h : Half pre.length m T S E) (hx : Sent b x) (hk : (pre.length : Int) + 1 = m) :
    Half (pre ++ [c]).length m (T ++ x) (S ++ [(T.length : Int)]) (E ++ [((T ++ x).length : Int)]) := by
  rw [List.length_append, List.length_singleton]
  rcases h with ⟨_, its, h1, h2, h3, h4⟩ | ⟨h, _⟩
  · refine .inr ⟨by omega, its, b, x, ?_, ?_, ?_, hx, h4⟩
    · rw [h1]
    · rw [h2, h1]
    · rw [h3]
  · omega
theorem whole_more {k : Nat} {m : Int} {T g : Str} {S E : List Int} {j : Nat} (h : Half k m T S E) (hk : (k : Int) = m) (hg : g ∈ gaps3) : Whole j (T ++ g) S E := by
  rcases h with ⟨h, _⟩ | ⟨_, its, b, x, h1, h2, h3, hx, h4⟩
  · omega
  · refine ⟨its ++ [⟨x, b, g, true⟩], ⟨?_, ?_, ?_, ?_⟩, fun _ => ⟨its, _, rfl, rfl⟩⟩
    · rw [render_snoc, h1]
    · rw [startsOf_snoc, h2]; simp
    · rw [endsOf_snoc, h3, h1, Str.length_append]; simp
    · intro i hi
      rcases List.mem_append.mp hi with hi | hi
      · exact h4 i hi
      · rw [List.mem_singleton.mp hi]; exact .inr ⟨rfl, hx, hg⟩
theorem starts_len : ∀ (its : List It) (n : Int), (startsOf n its).length = its.length
  | [], _ => rfl
  | i :: r, n => by simp [startsOf, starts_len r]
theorem whole_pos {k : Nat} {T : Str} {S E : List Int} (h : Whole k T S E) (hk : 0 < k) : 1 ≤ S.length := by
  obtain ⟨its, ⟨_, h2, _, _⟩, h5⟩ := h
  obtain ⟨r, i, rfl, _⟩ := h5 hk
  rw [h2, starts_len]; simp
theorem codes_len (x : Str) : (codes x).length = x.length := by simp [codes, Str.length]
/-- where the law asks: at the pick's sentence p -/
noncomputable def PlaceOf (S E : List Int) (p a : Int) : Prop := a = S.getD p.toNat 0 ∨ a = S.getD p.toNat 0 + 1 ∨ a = E.getD p.toNat 0 ∨ (p + 1 < S.length ∧ a = (E.getD p.toNat 0 + S.getD (p + 1).toNat 0 + 1).fdiv 2)
theorem place3 {S E : List Int} {p a : Int} (h : a ∈ [S.getD p.toNat 0, S.getD p.toNat 0 + 1, E.getD p.toNat 0]) : PlaceOf S E p a := by
  simp only [List.mem_cons, List.not_mem_nil, or_false] at h
  rcases h with h | h | h
  · exact .inl h
  · exact .inr (.inl h)
  · exact .inr (.inr (.inl h))
theorem place4 {S E : List Int} {p a : Int} (h : a ∈ [S.getD p.toNat 0, S.getD p.toNat 0 + 1, E.getD p.toNat 0, (E.getD p.toNat 0 + S.getD (p + 1).toNat 0 + 1).fdiv 2]) (hp : p + 1 < S.length) : PlaceOf S E p a := by
  simp only [List.mem_cons, List.not_mem_nil, or_false] at h
  rcases h with h | h | h | h
  · exact .inl h
  · exact .inr (.inl h)
  · exact .inr (.inr (.inl h))
  · exact .inr (.inr (.inr ⟨hp, h⟩))
theorem filt_yes {l pre : List Int} {q : Int → Bool} {k : Int} (h : l = pre.filter q) (hk : q k = true) : l ++ [k] = (pre ++ [k]).filter q := by
  rw [List.filter_append, h]; simp [hk]
theorem filt_no {l pre : List Int} {q : Int → Bool} {k : Int} (h : l = pre.filter q) (hk : q k = false) : l = (pre ++ [k]).filter q := by
  rw [List.filter_append, h]; simp [hk]
end
section
open PySem PySem.W PyProof.Rows
/-! from the signs of the words to the places -/
noncomputable def At (cs : List Int) (pl x : Int) (l : List Int) : Prop := ∀ (j : Nat) (v : Int), l[j]? = some v → codeAt cs pl (x + j) = v
section
variable {cs : List Int} {pl : Int}
theorem At.app {x : Int} {l r : List Int} (H : At cs pl x (l ++ r)) : At cs pl x l ∧ At cs pl (x + l.length) r := by
  refine ⟨fun j v h => H j v ?_, fun j v h => ?_⟩
  · have hj : j < l.length := by
      by_cases hj : j < l.length
      · exact hj
      · rw [List.getElem?_eq_none (by omega)] at h; cases h
    rw [List.getElem?_append_left hj]; exact h
  · have := H (l.length + j) v (by rw [List.getElem?_append_right (by omega), Nat.add_sub_cancel_left]; exact h)
    rw [← this]; congr 1; simp; omega
theorem At.head {x c : Int} {l : List Int} (H : At cs pl x (c :: l)) : codeAt cs pl x = c := by
  have := H 0 c rfl
  simpa using this
theorem At.tail {x c : Int} {l : List Int} (H : At cs pl x (c :: l)) : At cs pl (x + 1) l := by
  have := (At.app (l := [c]) (r := l) H).2
  simpa using this
theorem at_split {A l B : List Int} (hc : cs = A ++ l ++ B) : At cs pl (pl + A.length) l := by
  intro j v h
  have hj : j < l.length := by
    by_cases hj : j < l.length
    · exact hj
    · rw [List.getElem?_eq_none (by omega)] at h; cases h
  unfold codeAt
  have hlen : cs.length = A.length + l.length + B.length := by rw [hc]; simp; omega
  rw [if_pos (by omega)]
  have e : (pl + (A.length : Int) + (j : Int) - pl).toNat = A.length + j := by omega
  rw [e, List.getD_eq_getElem?_getD, hc, List.append_assoc, List.getElem?_append_right (by omega), Nat.add_sub_cancel_left, List.getElem?_append_left hj, h]
  rfl
theorem At.get {x : Int} {l : List Int} (H : At cs pl x l) {j : Nat} (hj : j < l.length) : codeAt cs pl (x + j) = l.getD j (-1) := by
  rw [List.getD_eq_getElem?_getD, List.getElem?_eq_getElem hj]
  exact H j _ (List.getElem?_eq_getElem hj)
noncomputable def quiet1 (c0 c1 c2 : Int) : Bool := decide (c0 ≠ 10) && (!isStop c0 || (!isClosing c1 && decide (c1 ≠ 10) && decide (c1 ≠ 9) && decide (c1 ≠ -1) && (decide (c1 ≠ 32) || (decide (c2 ≠ 10) && decide (c2 ≠ 32) && decide (c2 ≠ -1)))))
noncomputable def quietL (l : List Int) (n : Nat) : Bool := (List.range n).all fun j => quiet1 (l.getD j (-1)) (l.getD (j + 1) (-1)) (l.getD (j + 2) (-1))
theorem not_end {i : Int} (h : codeAt cs pl i ≠ -1) : i ≠ pl + cs.length := by have := codeAt_in h; omega
theorem isLineEnd_false {i : Int} (h : codeAt cs pl i ≠ -1) (h10 : codeAt cs pl i ≠ 10) : isLineEnd cs pl i = false := by
  unfold isLineEnd; rw [decide_eq_false (not_end h), decide_eq_false h10]; rfl
theorem quiet_of_at {x : Int} {l : List Int} {n : Nat} (H : At cs pl x l) (hq : quietL l n = true) (hn : n ≤ l.length) : ∀ i, x ≤ i → i < x + n → gapOf cs pl i < 0 ∧ codeAt cs pl i ≠ 10 := by
  intro i h1 h2
  obtain ⟨j, hj⟩ : ∃ j : Nat, i = x + j := ⟨(i - x).toNat, by omega⟩
  subst hj
  have hjn : j < n := by omega
  have q := List.all_eq_true.mp hq j (List.mem_range.mpr hjn)
  have e0 := H.get (j := j) (by omega)
  simp only [quiet1, Bool.and_eq_true, Bool.or_eq_true, decide_eq_true_eq, Bool.not_eq_true'] at q
  rw [← e0] at q
  refine ⟨?_, q.1⟩
  rcases q.2 with q2 | ⟨⟨⟨⟨q3, q4⟩, q5⟩, q6⟩, q7⟩
  · exact gapOf_nostop q2
  · have hj1 : j + 1 < l.length := by
      by_cases h : j + 1 < l.length
      · exact h
      · rw [List.getD_eq_getElem?_getD, List.getElem?_eq_none (by omega)] at q6; exact absurd rfl q6
    have e1 := H.get (j := j + 1) hj1
    rw [← e1] at q3 q4 q5 q6 q7
    have ex : x + ((j + 1 : Nat) : Int) = x + j + 1 := by omega
    rw [ex] at q3 q4 q5 q6 q7
    cases hs : isStop (codeAt cs pl (x + j)) with
    | false => exact gapOf_nostop hs
    | true =>
      have hc : closedAt cs pl (x + j) = x + j + 1 := by unfold closedAt; rw [if_pos hs, skipClosing_stop q3]
      have hin := codeAt_in q6
      have hg : gapBehind cs pl (x + j + 1) = -1 := by
        unfold gapBehind
        rw [isLineEnd_false q6 q4, if_neg (by simp), if_neg q5]
        rcases q7 with q7 | ⟨⟨q7, q8⟩, q9⟩
        · rw [if_pos q7]
        · have hj2 : j + 2 < l.length := by
            by_cases h : j + 2 < l.length
            · exact h
            · rw [List.getD_eq_getElem?_getD, List.getElem?_eq_none (by omega)] at q9; exact absurd rfl q9
          have e2 := H.get (j := j + 2) hj2
          rw [← e2] at q7 q8 q9
          have ex2 : x + ((j + 2 : Nat) : Int) = x + j + 1 + 1 := by omega
          rw [ex2] at q7 q8 q9
          by_cases h32 : codeAt cs pl (x + j + 1) ≠ 32
          · rw [if_pos h32]
          · rw [if_neg h32, isLineEnd_false q9 q7, if_neg (by simp), if_neg q8]
      unfold gapOf
      by_cases hneg : closedAt cs pl (x + j) < 0
      · rw [if_pos hneg]; omega
      · rw [if_neg hneg, hc, hg]; omega
/-- a sentence at its place -/
structure SentAt (cs : List Int) (pl p e t : Int) (b : Bool) : Prop where
  pe : p < e
  nb : Nb cs pl p
  inner : ∀ i, p ≤ i → i < e → codeAt cs pl i ≠ 10
  fin : isSpaces (codeAt cs pl (e - 1)) = false
  quiet : ∀ i, p ≤ i → i < e → (b = false ∨ i ≠ t) → gapOf cs pl i < 0
  stop : b = true → p < t ∧ t < e ∧ closedAt cs pl t = e
theorem codes_append (x y : Str) : codes (x ++ y) = codes x ++ codes y := by simp [codes, Str.cps_append]
noncomputable def body (ws : List Str) : List Int := ws.flatMap fun w => codes w ++ [32]
theorem body_join : ∀ {ws : List Str}, ws ≠ [] → codes (Str.join (Str.ofString " ") ws) ++ [32] = body ws
  | [], h => absurd rfl h
  | [w], _ => by rw [join_one]; simp [body]
  | w :: y :: r, _ => by
    have ih := body_join (ws := y :: r) (by simp)
    have e : codes (Str.ofString " ") = [32] := by decide +kernel
    rw [join_cons_cons, codes_append, codes_append, e, List.append_assoc, List.append_assoc, ih]
    simp [body]
theorem word_chk : ∀ w ∈ words6, quietL (codes w ++ [32]) ((codes w).length + 1) = true ∧ (codes w).getD 0 (-1) ≠ 32 ∧ (codes w).getD 0 (-1) ≠ 9 ∧ (codes w).getD 0 (-1) ≠ 12 ∧ (codes w).getD 0 (-1) ≠ 10 ∧ (codes w).getD 0 (-1) ≠ -1 ∧ 0 < (codes w).length := by decide +kernel
theorem body_ok : ∀ {ws : List Str} {x : Int}, (∀ w ∈ ws, w ∈ words6) → At cs pl x (body ws) → ∀ i, x ≤ i → i < x + (body ws).length → gapOf cs pl i < 0 ∧ codeAt cs pl i ≠ 10
  | [], x, _, _ => fun i h1 h2 => by simp [body] at h2; omega
  | w :: r, x, hw, H => fun i h1 h2 => by
    have eb : body (w :: r) = (codes w ++ [32]) ++ body r := by simp [body]
    rw [eb] at H h2
    obtain ⟨H1, H2⟩ := H.app
    have el : (codes w ++ [32]).length = (codes w).length + 1 := by simp
    by_cases h : i < x + ((codes w).length + 1 : Nat)
    · exact quiet_of_at H1 (word_chk w (hw w (.head _))).1 (by rw [el]; exact Nat.le_refl _) i h1 h
    · refine body_ok (fun z hz => hw z (.tail _ hz)) H2 i (by rw [el]; omega) ?_
      rw [List.length_append, el] at h2
      rw [el]; omega
theorem body_nb {w : Str} {r : List Str} {x : Int} (hw : w ∈ words6) (H : At cs pl x (body (w :: r))) : Nb cs pl x := by
  have eb : body (w :: r) = (codes w ++ [32]) ++ body r := by simp [body]
  rw [eb] at H
  have H1 := H.app.1.app.1
  obtain ⟨_, c1, c2, c3, c4, c5, c6⟩ := word_chk w hw
  have e := H1.get (j := 0) c6
  have e' : codeAt cs pl x = (codes w).getD 0 (-1) := by simpa using e
  rw [Nb, e']
  exact ⟨c1, c2, c3, c4, c5⟩
noncomputable def tailOk (l : List Int) : Bool := match l with
  | [] => false
  | c :: r => isStop c && decide (c ≠ 10) && r.all (fun d => isClosing d && !isStop d && decide (d ≠ 10)) && !isSpaces ((c :: r).getLastD 0)
theorem tail_chk : ∀ w ∈ tails7, tailOk (codes w) = true := by decide +kernel
theorem closed_run : ∀ {l : List Int} {x c : Int}, l.all (fun d => isClosing d && !isStop d && decide (d ≠ 10)) = true → At cs pl x (l ++ [c]) → isClosing c = false → skipClosing cs pl x = x + l.length
  | [], x, c, _, H, hc => by
    have := H.head
    rw [skipClosing_stop (by rw [this]; exact hc)]; simp
  | d :: r, x, c, hl, H, hc => by
    have h1 := H.head
    have h2 := H.tail
    rw [List.all_cons, Bool.and_eq_true] at hl
    have h3 : isClosing d = true := by
      have := hl.1; simp only [Bool.and_eq_true] at this; exact this.1.1
    rw [skipClosing_go (by rw [h1]; exact h3), closed_run hl.2 h2 hc]
    simp; omega
theorem run_quiet : ∀ {l : List Int} {x : Int}, l.all (fun d => isClosing d && !isStop d && decide (d ≠ 10)) = true → At cs pl x l → ∀ i, x ≤ i → i < x + l.length → gapOf cs pl i < 0 ∧ codeAt cs pl i ≠ 10
  | l, x, hl, H, i, h1, h2 => by
    obtain ⟨j, hj⟩ : ∃ j : Nat, i = x + j := ⟨(i - x).toNat, by omega⟩
    subst hj
    have e := H.get (j := j) (by omega)
    have hm : l.getD j (-1) ∈ l := by
      rw [List.getD_eq_getElem?_getD, List.getElem?_eq_getElem (by omega)]
      exact List.getElem_mem _
    have := List.all_eq_true.mp hl _ hm
    simp only [Bool.and_eq_true, decide_eq_true_eq, Bool.not_eq_true'] at this
    rw [← e] at this
    exact ⟨gapOf_nostop this.1.2, this.2⟩
theorem last_at {l : List Int} {x : Int} (hl : l ≠ []) (H : At cs pl x l) : codeAt cs pl (x + l.length - 1) = l.getLastD 0 := by
  have hpos : 0 < l.length := List.length_pos_iff.mpr hl
  have e := H.get (j := l.length - 1) (by omega)
  have e1 : x + ((l.length - 1 : Nat) : Int) = x + l.length - 1 := by omega
  rw [e1] at e
  rw [e, List.getD_eq_getElem?_getD, List.getElem?_eq_getElem (by omega), List.getLastD_eq_getLast?, List.getLast?_eq_getElem?, List.getElem?_eq_getElem (by omega)]
  rfl
theorem sent_at {b : Bool} {x : Str} {p c : Int} (hp : 0 ≤ pl) (hx : Sent b x) (H : At cs pl p (codes x ++ [c])) (hc : isClosing c = false) : ∃ t, SentAt cs pl p (p + x.length) t b := by
  obtain ⟨n, y, n1, n3, ⟨ws, w1, w2, rfl⟩, hb⟩ := hx
  have hj : Txt.join (Str.ofString " ") ws = Str.join (Str.ofString " ") ws := StrLaws.glued_eq_join ..
  rw [hj] at hb
  have hne : ws ≠ [] := by rintro rfl; simp at w1; omega
  have ez : codes (Str.ofString " z") = [32, 122] := by decide +kernel
  have e0 : codes (Str.join (Str.ofString " ") ws ++ Str.ofString " z") = body ws ++ [122] := by
    rw [codes_append, ez, ← body_join hne]; simp
  have hl0 : ((Str.join (Str.ofString " ") ws ++ Str.ofString " z").length : Int) = (body ws).length + 1 := by
    rw [← codes_len, e0]; simp
  obtain ⟨w, r, hwr⟩ : ∃ w r, ws = w :: r := by
    cases ws with
    | nil => exact absurd rfl hne
    | cons w r => exact ⟨w, r, rfl⟩
  have hbl : 0 < (body ws).length := by
    have eb : body (w :: r) = (codes w ++ [32]) ++ body r := by simp [body]
    rw [hwr, eb]; simp; omega
  rcases hb with ⟨rfl, rfl⟩ | ⟨rfl, tl, htl, rfl⟩
  · rw [e0] at H
    have H0 := H.app.1
    obtain ⟨H1, H2⟩ := H0.app
    have hz := H2.head
    have hq := body_ok w2 H1
    have hcov : ∀ i, p ≤ i → i < p + (Str.join (Str.ofString " ") ws ++ Str.ofString " z").length → gapOf cs pl i < 0 ∧ codeAt cs pl i ≠ 10 := fun i h1 h2 => by
      by_cases h : i < p + (body ws).length
      · exact hq i h1 h
      · have hi : i = p + (body ws).length := by omega
        rw [hi, hz]
        exact ⟨gapOf_nostop (by rw [hz]; decide), by decide⟩
    refine ⟨0, by omega, ?_, fun i h1 h2 => (hcov i h1 h2).2, ?_, fun i h1 h2 _ => (hcov i h1 h2).1, fun h => Bool.noConfusion h⟩
    · rw [hwr] at H1 w2; exact body_nb (w2 w (.head _)) H1
    · rw [hl0, show p + ((body ws).length + 1 : Int) - 1 = p + (body ws).length by omega, hz]; decide
  · rw [codes_append, e0, List.append_assoc] at H
    obtain ⟨H0, H3⟩ := H.app
    obtain ⟨H1, H2⟩ := H0.app
    have hz := H2.head
    have hq := body_ok w2 H1
    have ht := tail_chk tl htl
    have hlt : ((Str.join (Str.ofString " ") ws ++ Str.ofString " z" ++ tl).length : Int) = (body ws).length + 1 + (codes tl).length := by
      rw [← codes_len, codes_append, e0]; simp; omega
    have hH3 : p + ((body ws ++ [122]).length : Int) = p + (body ws).length + 1 := by simp; omega
    rw [hH3] at H3
    generalize hct : codes tl = ct at *
    cases ct with
    | nil => exact absurd ht (by decide)
    | cons d r' =>
      simp only [tailOk, Bool.and_eq_true, decide_eq_true_eq, Bool.not_eq_true'] at ht
      obtain ⟨⟨⟨t1, t2⟩, t3⟩, t4⟩ := ht
      have hd := H3.head
      have H4 := H3.tail
      have H5 := H4.app.1
      have hrun := run_quiet t3 H5
      have hlen : ((d :: r').length : Int) = r'.length + 1 := by simp
      rw [hlen] at hlt
      have hcl : closedAt cs pl (p + (body ws).length + 1) = p + (body ws).length + 1 + 1 + r'.length := by
        unfold closedAt
        rw [hd, if_pos t1]
        exact closed_run t3 H4 hc
      have hcov : ∀ i, p ≤ i → i < p + ((body ws).length + 1 + (r'.length + 1) : Int) → (i ≠ p + (body ws).length + 1 → gapOf cs pl i < 0) ∧ codeAt cs pl i ≠ 10 := fun i h1 h2 => by
        by_cases h : i < p + (body ws).length
        · exact ⟨fun _ => (hq i h1 h).1, (hq i h1 h).2⟩
        · by_cases h3 : i = p + (body ws).length
          · rw [h3, hz]
            exact ⟨fun _ => gapOf_nostop (by rw [hz]; decide), by decide⟩
          · by_cases h5 : i = p + (body ws).length + 1
            · refine ⟨fun q => absurd h5 q, ?_⟩
              rw [h5, hd]; exact t2
            · have := hrun i (by omega) (by omega)
              exact ⟨fun _ => this.1, this.2⟩
      refine ⟨p + (body ws).length + 1, by omega, ?_, fun i h1 h2 => (hcov i h1 (by omega)).2, ?_, fun i h1 h2 h3 => (hcov i h1 (by omega)).1 ?_, fun _ => ⟨by omega, by omega, ?_⟩⟩
      · rw [hwr] at H1 w2; exact body_nb (w2 w (.head _)) H1
      · have := last_at (l := d :: r') (x := p + (body ws).length + 1) (by simp) H3.app.1
        rw [hlt, show p + ((body ws).length + 1 + (r'.length + 1) : Int) - 1 = p + (body ws).length + 1 + ((d :: r').length : Int) - 1 by rw [hlen]; omega, this]
        exact t4
      · rcases h3 with h3 | h3
        · exact Bool.noConfusion h3
        · exact h3
      · rw [hcl, hlt]; omega
end
end
section
open PySem PySem.W PyProof.Rows
section
variable {cs : List Int} {pl : Int}
theorem At.all {x : Int} {l : List Int} (H : At cs pl x l) {q : Int → Bool} (hq : l.all q = true) : ∀ i, x ≤ i → i < x + l.length → q (codeAt cs pl i) = true := by
  intro i h1 h2
  obtain ⟨j, hj⟩ : ∃ j : Nat, i = x + j := ⟨(i - x).toNat, by omega⟩
  subst hj
  rw [H.get (j := j) (by omega)]
  refine List.all_eq_true.mp hq _ ?_
  rw [List.getD_eq_getElem?_getD, List.getElem?_eq_getElem (by omega)]
  exact List.getElem_mem _
noncomputable def onlyLast (l : List Int) : Bool := (List.range l.length).all fun j => decide (l.getD j (-1) ≠ 10) || decide (j + 1 = l.length)
theorem gap5_chk : ∀ g ∈ gaps5, (codes g).all isSpaces = true ∧ onlyLast (codes g) = true ∧ 0 < (codes g).length := by decide +kernel
theorem gap5_lit : ∀ g ∈ gaps5, codes g = [32, 32] ∨ codes g = [9] ∨ codes g = [10] ∨ codes g = [32, 10] ∨ codes g = [32, 32, 32] := by decide +kernel
theorem gap3_chk : ∀ g ∈ gaps3, (codes g).all (fun c => decide (c = 10) || decide (c = 32)) = true ∧ (codes g).getD 0 0 = 10 ∧ (codes g).getLastD 0 = 10 ∧ 2 ≤ (codes g).length := by decide +kernel
theorem gap5_at {x : Int} {g : Str} (hg : g ∈ gaps5) (H : At cs pl x (codes g)) (hp : 0 ≤ pl) :
    (∀ i, x ≤ i → i < x + g.length → isSpaces (codeAt cs pl i) = true ∧ (codeAt cs pl i = 10 → i + 1 = x + g.length)) ∧ 0 ≤ gapBehind cs pl x ∧ gapBehind cs pl x ≤ x + g.length := by
  obtain ⟨c1, c2, c3⟩ := gap5_chk g hg
  have hlen := codes_len g
  refine ⟨fun i h1 h2 => ⟨H.all c1 i h1 (by rw [hlen]; exact h2), fun h10 => ?_⟩, ?_⟩
  · obtain ⟨j, hj⟩ : ∃ j : Nat, i = x + j := ⟨(i - x).toNat, by omega⟩
    subst hj
    have hjl : j < (codes g).length := by omega
    have := List.all_eq_true.mp c2 j (List.mem_range.mpr hjl)
    rw [H.get (j := j) hjl] at h10
    rw [h10] at this
    simp at this
    omega
  · have hx0 : codeAt cs pl x ≠ -1 → 0 ≤ x := fun h => by have := codeAt_in h; omega
    rcases gap5_lit g hg with e | e | e | e | e <;> rw [e] at H hlen
    · have h0 := H.head
      have h1 := H.tail.head
      have hg' : gapBehind cs pl x = x + 2 := by
        unfold gapBehind
        rw [isLineEnd_false (by rw [h0]; decide) (by rw [h0]; decide), if_neg (by simp), if_neg (by rw [h0]; decide), if_neg (by rw [h0]; decide), isLineEnd_false (by rw [h1]; decide) (by rw [h1]; decide), if_neg (by simp), if_pos h1]
      have := hx0 (by rw [h0]; decide)
      simp at hlen; omega
    · have h0 := H.head
      have hg' : gapBehind cs pl x = x + 1 := by
        unfold gapBehind
        rw [isLineEnd_false (by rw [h0]; decide) (by rw [h0]; decide), if_neg (by simp), if_pos h0]
      have := hx0 (by rw [h0]; decide)
      simp at hlen; omega
    · have h0 := H.head
      have hg' : gapBehind cs pl x = x := gapBehind_nl h0
      have := hx0 (by rw [h0]; decide)
      simp at hlen; omega
    · have h0 := H.head
      have h1 := H.tail.head
      have hg' : gapBehind cs pl x = x + 1 := by
        unfold gapBehind
        rw [isLineEnd_false (by rw [h0]; decide) (by rw [h0]; decide), if_neg (by simp), if_neg (by rw [h0]; decide), if_neg (by rw [h0]; decide), show isLineEnd cs pl (x + 1) = true by unfold isLineEnd; rw [h1]; simp, if_pos rfl]
      have := hx0 (by rw [h0]; decide)
      simp at hlen; omega
    · have h0 := H.head
      have h1 := H.tail.head
      have hg' : gapBehind cs pl x = x + 2 := by
        unfold gapBehind
        rw [isLineEnd_false (by rw [h0]; decide) (by rw [h0]; decide), if_neg (by simp), if_neg (by rw [h0]; decide), if_neg (by rw [h0]; decide), isLineEnd_false (by rw [h1]; decide) (by rw [h1]; decide), if_neg (by simp), if_pos h1]
      have := hx0 (by rw [h0]; decide)
      simp at hlen; omega
theorem gap3_at {x : Int} {g : Str} (hg : g ∈ gaps3) (H : At cs pl x (codes g)) : codeAt cs pl x = 10 ∧ 2 ≤ g.length ∧ (∀ i, x ≤ i → i < x + g.length → codeAt cs pl i = 10 ∨ codeAt cs pl i = 32) ∧ codeAt cs pl (x + g.length - 1) = 10 := by
  obtain ⟨c1, c2, c3, c4⟩ := gap3_chk g hg
  have hlen := codes_len g
  refine ⟨?_, by omega, fun i h1 h2 => ?_, ?_⟩
  · have := H.get (j := 0) (by omega)
    rw [List.getD_eq_getElem?_getD, List.getElem?_eq_getElem (by omega)] at this c2
    rw [show x = x + ((0 : Nat) : Int) by simp, this]; exact c2
  · have := H.all c1 i h1 (by rw [hlen]; exact h2)
    simpa using this
  · rw [← hlen, last_at (by intro h; rw [h] at c4; simp at c4) H]; exact c3
end
/-! the layout -/
noncomputable def dI : It := ⟨Str.empty, false, Str.empty, false⟩
noncomputable def itk (its : List It) (k : Nat) : It := its.getD k dI
noncomputable def posS (pl : Int) (its : List It) (k : Nat) : Int := pl + (render (its.take k)).length
noncomputable def posE (pl : Int) (its : List It) (k : Nat) : Int := posS pl its k + (itk its k).s.length
theorem render_append : ∀ a b : List It, render (a ++ b) = render a ++ render b
  | [], b => by simp only [List.nil_append, render, Str.empty_append]
  | i :: r, b => by simp only [List.cons_append, render, render_append r b, Str.append_assoc]
theorem its_split {its : List It} {k : Nat} (h : k < its.length) : its = its.take k ++ itk its k :: its.drop (k + 1) := by
  have e : itk its k = its[k] := by unfold itk; rw [List.getD_eq_getElem?_getD, List.getElem?_eq_getElem h]; rfl
  have q := List.take_append_drop k its
  rw [List.drop_eq_getElem_cons h] at q
  rw [e]; exact q.symm
theorem posS_succ {pl : Int} {its : List It} {k : Nat} (h : k < its.length) : posS pl its (k + 1) = posE pl its k + (itk its k).g.length := by
  have e : its.take (k + 1) = its.take k ++ [itk its k] := by
    rw [List.take_add_one, List.getElem?_eq_getElem h]
    unfold itk; rw [List.getD_eq_getElem?_getD, List.getElem?_eq_getElem h]; rfl
  unfold posE posS
  rw [e, render_snoc, Str.length_append, Str.length_append]
  simp; omega
theorem item_at {its : List It} {pl : Int} {k : Nat} (h : k < its.length) : At (codes (render its)) pl (posS pl its k) (codes (itk its k).s ++ codes (itk its k).g) := by
  have e : codes (render its) = codes (render (its.take k)) ++ (codes (itk its k).s ++ codes (itk its k).g) ++ codes (render (its.drop (k + 1))) := by
    conv => lhs; rw [its_split h]
    rw [render_append, codes_append]
    simp only [render, codes_append, List.append_assoc]
  have := at_split (pl := pl) e
  rw [codes_len] at this
  exact this
theorem itk_mem {its : List It} {k : Nat} (h : k < its.length) : itk its k ∈ its := by
  unfold itk; rw [List.getD_eq_getElem?_getD, List.getElem?_eq_getElem h]; exact List.getElem_mem h
theorem gap_head {i : It} (h : i.ok) : ∃ c r, codes i.g = c :: r ∧ isClosing c = false := by
  rcases h with ⟨_, _, _, h⟩ | ⟨_, _, h⟩
  · have : ∀ g ∈ gaps5, ∃ c r, codes g = c :: r ∧ isClosing c = false := by
      intro g hg
      rcases gap5_lit g hg with e | e | e | e | e <;> exact ⟨_, _, e, by decide⟩
    exact this _ h
  · have e : ∀ g ∈ gaps3, (codes g).getD 0 0 = 10 ∧ 0 < (codes g).length := by decide +kernel
    obtain ⟨e1, e2⟩ := e _ h
    cases hc : codes i.g with
    | nil => rw [hc] at e2; simp at e2
    | cons c r => rw [hc] at e1; exact ⟨c, r, rfl, by simp at e1; rw [e1]; decide⟩
theorem ok_sent {i : It} (h : i.ok) : Sent i.b i.s := by
  rcases h with ⟨_, h1, h2, _⟩ | ⟨_, h2, _⟩
  · rw [h1]; exact h2
  · exact h2
theorem item_sent {its : List It} {pl : Int} (hp : 0 ≤ pl) (hok : ∀ i ∈ its, i.ok) {k : Nat} (h : k < its.length) : ∃ t, SentAt (codes (render its)) pl (posS pl its k) (posE pl its k) t (itk its k).b := by
  have H := item_at (pl := pl) h
  have ho := hok _ (itk_mem h)
  obtain ⟨c, r, hc, hcl⟩ := gap_head ho
  rw [hc, show codes (itk its k).s ++ c :: r = (codes (itk its k).s ++ [c]) ++ r by simp] at H
  exact sent_at hp (ok_sent ho) H.app.1 hcl
theorem its_lay {its : List It} {pl : Int} (hp : 0 ≤ pl) (hok : ∀ i ∈ its, i.ok) (hK : 0 < its.length) (hl : (itk its (its.length - 1)).l = true) :
    ∃ t, Lay (codes (render its)) pl its.length (posS pl its) (posE pl its) t (fun k => (itk its k).l) (fun k => (itk its k).b) := by
  have hall : ∀ k, ∃ t, k < its.length → SentAt (codes (render its)) pl (posS pl its k) (posE pl its k) t (itk its k).b := fun k => by
    by_cases h : k < its.length
    · obtain ⟨t, ht⟩ := item_sent hp hok h
      exact ⟨t, fun _ => ht⟩
    · exact ⟨0, fun q => absurd q h⟩
  obtain ⟨t, ht⟩ := Classical.axiomOfChoice hall
  have hgap : ∀ k, k < its.length → At (codes (render its)) pl (posE pl its k) (codes (itk its k).g) := fun k h => by
    have := (item_at (pl := pl) h).app.2
    rw [codes_len] at this
    exact this
  have hss : ∀ k, k < its.length → posS pl its (k + 1) = posE pl its k + (itk its k).g.length := fun k h => posS_succ h
  have hin : ∀ k, k < its.length → (itk its k).l = false → (itk its k).b = true ∧ (itk its k).g ∈ gaps5 := fun k h hlf => by
    rcases hok _ (itk_mem h) with ⟨_, h1, _, h2⟩ | ⟨h1, _⟩
    · exact ⟨h1, h2⟩
    · rw [hlf] at h1; exact Bool.noConfusion h1
  have hla : ∀ k, k < its.length → (itk its k).l = true → (itk its k).g ∈ gaps3 := fun k h hlt => by
    rcases hok _ (itk_mem h) with ⟨h1, _⟩ | ⟨_, _, h2⟩
    · rw [hlt] at h1; exact Bool.noConfusion h1
    · exact h2
  refine ⟨t, hp, ?_, ?_, hK, hl, fun k h => (ht k h).pe, fun k h => ?_, fun k h => (ht k h).nb, fun k h => (ht k h).inner, fun k h => (ht k h).fin, fun k h => (ht k h).quiet, fun k h => (ht k h).stop, fun k h hlf => ?_, fun k h hlt => ?_⟩
  · simp [posS, render, Str.length, Str.empty]
  · rw [posS, List.take_length, codes_len]; exact Int.le_refl _
  · rw [hss k h]
    cases hlk : (itk its k).l with
    | false =>
      have := (gap5_chk _ (hin k h hlk).2).2.2
      rw [codes_len] at this; omega
    | true =>
      have := (gap3_chk _ (hla k h hlk)).2.2.2
      rw [codes_len] at this; omega
  · obtain ⟨h1, h2⟩ := hin k h hlf
    have hk1 : k + 1 < its.length := by
      by_cases q : k + 1 < its.length
      · exact q
      · have : k = its.length - 1 := by omega
        rw [this] at hlf; rw [hl] at hlf; exact Bool.noConfusion hlf
    rw [hss k h]
    exact ⟨h1, hk1, gap5_at h2 (hgap k h) hp⟩
  · obtain ⟨g1, g2, g3, g4⟩ := gap3_at (hla k h hlt) (hgap k h)
    rw [hss k h]
    exact ⟨g1, by omega, g3, g4⟩
theorem starts_get : ∀ (its : List It) (n : Int) (k : Nat), k < its.length → (startsOf n its).getD k 0 = n + (render (its.take k)).length
  | i :: r, n, 0, _ => by simp [startsOf, render, Str.length, Str.empty]
  | i :: r, n, k + 1, h => by
    have := starts_get r (n + i.s.length + i.g.length) k (by simpa using h)
    simp only [startsOf, List.getD_cons_succ, List.take_succ_cons, render, Str.length_append]
    rw [this]; simp; omega
theorem ends_get : ∀ (its : List It) (n : Int) (k : Nat), k < its.length → (endsOf n its).getD k 0 = n + (render (its.take k)).length + (itk its k).s.length
  | i :: r, n, 0, _ => by simp [endsOf, render, Str.length, Str.empty, itk]
  | i :: r, n, k + 1, h => by
    have := ends_get r (n + i.s.length + i.g.length) k (by simpa using h)
    simp only [endsOf, List.getD_cons_succ, List.take_succ_cons, render, Str.length_append]
    rw [this]; simp [itk]; omega
theorem endsOf_len : ∀ (its : List It) (n : Int), (endsOf n its).length = its.length
  | [], _ => rfl
  | i :: r, n => by simp [endsOf, endsOf_len r]
theorem pair_of {l : List Int} (h : ∀ k, k + 1 < l.length → l.getD k 0 < l.getD (k + 1) 0) : l.Pairwise (· < ·) := by
  have far : ∀ (d k : Nat), k + d + 1 < l.length → l.getD k 0 < l.getD (k + d + 1) 0 := by
    intro d
    induction d with
    | zero => exact fun k hk => h k hk
    | succ d ih => exact fun k hk => Int.lt_trans (ih k (by omega)) (h (k + d + 1) hk)
  refine List.pairwise_iff_getElem.mpr fun i j hi hj hij => ?_
  have := far (j - i - 1) i (by omega)
  rw [show i + (j - i - 1) + 1 = j by omega, List.getD_eq_getElem?_getD, List.getD_eq_getElem?_getD, List.getElem?_eq_getElem hi, List.getElem?_eq_getElem hj] at this
  exact this
theorem filt_gt {a : Int} : ∀ {l : List Int}, l.Pairwise (· < ·) → ∃ k, k ≤ l.length ∧ l.filter (fun e => decide (a < e)) = l.drop k ∧ (∀ m, m < k → l.getD m 0 ≤ a) ∧ (∀ m, k ≤ m → m < l.length → a < l.getD m 0)
  | [], _ => ⟨0, Nat.le_refl _, rfl, fun m h => absurd h (Nat.not_lt_zero _), fun m _ h => absurd h (Nat.not_lt_zero _)⟩
  | x :: r, h => by
    obtain ⟨h1, h2⟩ := List.pairwise_cons.mp h
    by_cases hx : a < x
    · refine ⟨0, Nat.zero_le _, ?_, fun m h => absurd h (Nat.not_lt_zero _), fun m _ hm => ?_⟩
      · rw [List.drop_zero]
        refine List.filter_eq_self.mpr fun y hy => ?_
        rcases List.mem_cons.mp hy with rfl | hy
        · exact decide_eq_true hx
        · exact decide_eq_true (Int.lt_trans hx (h1 y hy))
      · cases m with
        | zero => exact hx
        | succ m =>
          have hm' : m < r.length := by simpa using hm
          rw [List.getD_cons_succ, List.getD_eq_getElem?_getD, List.getElem?_eq_getElem hm']
          exact Int.lt_trans hx (h1 _ (List.getElem_mem hm'))
    · obtain ⟨k, k1, k2, k3, k4⟩ := filt_gt h2
      refine ⟨k + 1, by simpa using k1, ?_, fun m hm => ?_, fun m hm1 hm2 => ?_⟩
      · rw [List.filter_cons, decide_eq_false hx, if_neg (by simp), k2]; rfl
      · cases m with
        | zero => simp; omega
        | succ m => rw [List.getD_cons_succ]; exact k3 m (by omega)
      · cases m with
        | zero => omega
        | succ m => rw [List.getD_cons_succ]; exact k4 m (by omega) (by simpa using hm2)
theorem filt_lt {a : Int} : ∀ {l : List Int}, l.Pairwise (· < ·) → ∃ k, k ≤ l.length ∧ l.filter (fun e => decide (e < a)) = l.take k ∧ (∀ m, m < k → l.getD m 0 < a) ∧ (∀ m, k ≤ m → m < l.length → a ≤ l.getD m 0)
  | [], _ => ⟨0, Nat.le_refl _, rfl, fun m h => absurd h (Nat.not_lt_zero _), fun m _ h => absurd h (Nat.not_lt_zero _)⟩
  | x :: r, h => by
    obtain ⟨h1, h2⟩ := List.pairwise_cons.mp h
    by_cases hx : x < a
    · obtain ⟨k, k1, k2, k3, k4⟩ := filt_lt h2
      refine ⟨k + 1, by simpa using k1, ?_, fun m hm => ?_, fun m hm1 hm2 => ?_⟩
      · rw [List.filter_cons, decide_eq_true hx, if_pos rfl, k2]; rfl
      · cases m with
        | zero => exact hx
        | succ m => rw [List.getD_cons_succ]; exact k3 m (by omega)
      · cases m with
        | zero => omega
        | succ m => rw [List.getD_cons_succ]; exact k4 m (by omega) (by simpa using hm2)
    · refine ⟨0, Nat.zero_le _, ?_, fun m h => absurd h (Nat.not_lt_zero _), fun m _ hm => ?_⟩
      · rw [List.take_zero]
        refine List.filter_eq_nil_iff.mpr fun y hy => ?_
        rcases List.mem_cons.mp hy with rfl | hy
        · simpa using hx
        · have := h1 y hy; simp; omega
      · cases m with
        | zero => simp; omega
        | succ m =>
          have hm' : m < r.length := by simpa using hm
          rw [List.getD_cons_succ, List.getD_eq_getElem?_getD, List.getElem?_eq_getElem hm']
          have := h1 _ (List.getElem_mem hm')
          simp; omega
/-- what the law asks, by places -/
structure Known (cs : List Int) (pl : Int) (S E : List Int) (K : Nat) (s e t : Nat → Int) (last hs : Nat → Bool) : Prop where
  lay : Lay cs pl K s e t last hs
  sl : S.length = K
  el : E.length = K
  sg : ∀ k, k < K → S.getD k 0 = s k - pl
  eg : ∀ k, k < K → E.getD k 0 = e k - pl
theorem known_of {k : Nat} {T : Str} {S E : List Int} {pl : Int} (hp : 0 ≤ pl) (hW : Whole k T S E) (hk : 0 < k) : ∃ K s e t last hs, Known (codes T) pl S E K s e t last hs ∧ s K = pl + T.length := by
  obtain ⟨its, ⟨h1, h2, h3, h4⟩, h5⟩ := hW
  obtain ⟨r, i, hr, hi⟩ := h5 hk
  have hK : 0 < its.length := by rw [hr]; simp
  have hl : (itk its (its.length - 1)).l = true := by
    rw [hr]; unfold itk; simp [hi]
  obtain ⟨t, Y⟩ := its_lay hp h4 hK hl
  rw [← h1] at Y
  refine ⟨its.length, posS pl its, posE pl its, t, _, _, ⟨Y, by rw [h2, starts_len], by rw [h3, endsOf_len], fun k hk => ?_, fun k hk => ?_⟩, ?_⟩
  · rw [h2, starts_get _ _ _ hk, posS]; omega
  · rw [h3, ends_get _ _ _ hk, posE, posS]; omega
  · rw [posS, List.take_length, h1]
section
variable {cs : List Int} {pl : Int} {S E : List Int} {K : Nat} {s e t : Nat → Int} {last hs : Nat → Bool}
theorem Known.place (Z : Known cs pl S E K s e t last hs) {p a : Int} (h0 : 0 ≤ p) (h1 : p < S.length) (h : PlaceOf S E p a) :
    ∃ k, k < K ∧ ((pl + a = s k ∨ pl + a = s k + 1) ∨ pl + a = e k ∨ (e k < pl + a ∧ pl + a ≤ s (k + 1) ∧ k + 1 < K)) := by
  have hk : p.toNat < K := by rw [← Z.sl]; omega
  refine ⟨p.toNat, hk, ?_⟩
  have e1 := Z.sg _ hk
  have e2 := Z.eg _ hk
  rcases h with h | h | h | ⟨h, h'⟩
  · left; left; omega
  · left; right; omega
  · right; left; omega
  · have hk1 : p.toNat + 1 < K := by rw [← Z.sl]; omega
    have e3 := Z.sg _ hk1
    have e4 : (p + 1).toNat = p.toNat + 1 := by omega
    rw [e4, e2, e3] at h'
    have b1 := Z.lay.es _ hk
    rw [Int.fdiv_eq_ediv_of_nonneg _ (by decide)] at h'
    right; right
    refine ⟨?_, ?_, hk1⟩ <;> omega
theorem Known.bd (Z : Known cs pl S E K s e t last hs) {p a : Int} (h0 : 0 ≤ p) (h1 : p < S.length) (h : PlaceOf S E p a) : pl ≤ pl + a ∧ pl + a < s K := by
  obtain ⟨k, hk, h⟩ := Z.place h0 h1 h
  have b1 := Z.lay.pls (Nat.le_of_lt hk)
  have b2 := Z.lay.se k hk
  have b3 := Z.lay.es k hk
  have b4 := Z.lay.mono' (k := k + 1) (j := K) hk (Nat.le_refl K)
  rcases h with (h | h) | h | ⟨h, h2, h3⟩
  · omega
  · omega
  · omega
  · have b5 := Z.lay.se (k + 1) h3
    have b6 := Z.lay.es (k + 1) h3
    have b7 := Z.lay.mono' (k := k + 1 + 1) (j := K) h3 (Nat.le_refl K)
    omega
theorem Known.fwd1 (Z : Known cs pl S E K s e t last hs) {p a : Int} (h0 : 0 ≤ p) (h1 : p < S.length) (h : PlaceOf S E p a) {k : Nat} (hk : k < K) (hlo : ∀ m, m < k → e m ≤ pl + a) (hhi : pl + a < e k) : oneFwd cs pl (pl + a) = e k := by
  have hb := Z.bd h0 h1 h
  obtain ⟨k0, hk0, h⟩ := Z.place h0 h1 h
  have b2 := Z.lay.se k0 hk0
  have b3 := Z.lay.es k0 hk0
  have b5 := Z.lay.se k hk
  refine Z.lay.fwd hk ?_ hhi ?_
  · by_cases h0 : k = 0
    · left; exact ⟨h0, by rw [Z.lay.s0]; exact hb.1⟩
    · right; exact ⟨by omega, hlo (k - 1) (by omega)⟩
  · rcases Nat.lt_trichotomy k k0 with h3 | h3 | h3
    · have b6 := Z.lay.es k hk
      have b7 := Z.lay.mono' (k := k + 1) (j := k0) h3 (Nat.le_of_lt hk0)
      rcases h with (h | h) | h | ⟨h, h2, h4⟩ <;> omega
    · subst h3
      rcases h with (h | h) | h | ⟨h, h2, h4⟩ <;> omega
    · have b7 := Z.lay.mono' (k := k0 + 1) (j := k) h3 (Nat.le_of_lt hk)
      rcases h with (h | h) | h | ⟨h, h2, h4⟩ <;> omega
theorem Known.bwd1 (Z : Known cs pl S E K s e t last hs) {p a : Int} (h0 : 0 ≤ p) (h1 : p < S.length) (h : PlaceOf S E p a) {k : Nat} (hk : k < K) (hlo : s k < pl + a) (hhi : k + 1 < K → pl + a ≤ s (k + 1)) : oneBwd cs pl (pl + a) = s k := by
  have hb := Z.bd h0 h1 h
  have hq : pl + a ≤ s (k + 1) ∧ (pl + a = s (k + 1) → k + 1 < K) := by
    by_cases h2 : k + 1 < K
    · exact ⟨hhi h2, fun _ => h2⟩
    · have : k + 1 = K := by omega
      rw [this]; exact ⟨by omega, fun q => by omega⟩
  refine Z.lay.bwd hk hlo hq.1 hq.2 ?_
  obtain ⟨k0, hk0, h⟩ := Z.place h0 h1 h
  have b2 := Z.lay.se k0 hk0
  have b3 := Z.lay.es k0 hk0
  have b4 := Z.lay.es k hk
  have b5 := Z.lay.se k hk
  rcases Nat.lt_trichotomy k k0 with h3 | h3 | h3
  · have b7 := Z.lay.mono' (k := k + 1) (j := k0) h3 (Nat.le_of_lt hk0)
    right
    rcases h with (h | h) | h | ⟨h, h2, h4⟩ <;> omega
  · subst h3
    rcases h with (h | h) | h | ⟨h, h2, h4⟩
    · omega
    · left; exact h
    · right; omega
    · right; omega
  · have b7 := Z.lay.mono' (k := k0 + 1) (j := k) h3 (Nat.le_of_lt hk)
    rcases h with (h | h) | h | ⟨h, h2, h4⟩ <;> omega
end
theorem place_bd {k : Nat} {T : Str} {S E : List Int} {p a : Int} (hW : Whole k T S E) (hk : 0 < k) (h0 : 0 ≤ p) (h1 : p < S.length) (h : PlaceOf S E p a) : 0 ≤ a ∧ a ≤ T.length := by
  obtain ⟨K, s, e, t, last, hs, Z, hsK⟩ := known_of (pl := 0) (Int.le_refl 0) hW hk
  have := Z.bd h0 h1 h
  omega
theorem law_fwd {k : Nat} {T : Str} {S E : List Int} {pl p a many : Int} (hW : Whole k T S E) (hk : 0 < k) (hpl : 0 ≤ pl) (h0 : 0 ≤ p) (h1 : p < S.length) (h : PlaceOf S E p a) (hm : 1 ≤ many ∧ many ≤ 2) (hl : many ≤ (E.filter (fun e => decide (a < e))).length) :
    target (codes T) pl (pl + a) many = pl + (E.filter (fun e => decide (a < e))).getD (many - 1).toNat 0 := by
  obtain ⟨K, s, e, t, last, hs, Z, hsK⟩ := known_of hpl hW hk
  have hE : E.Pairwise (· < ·) := pair_of fun m hm => by
    rw [Z.el] at hm
    rw [Z.eg m (by omega), Z.eg (m + 1) hm]
    have := Z.lay.es m (by omega)
    have := Z.lay.se (m + 1) hm
    omega
  obtain ⟨n, n1, n2, n3, n4⟩ := filt_gt (a := a) hE
  rw [n2] at hl ⊢
  rw [List.length_drop, Z.el] at hl
  rw [Z.el] at n1 n4
  have hnK : n < K := by omega
  have f1 : oneFwd (codes T) pl (pl + a) = e n := Z.fwd1 h0 h1 h hnK (fun m hm => by have := n3 m hm; rw [Z.eg m (by omega)] at this; omega) (by have := n4 n (Nat.le_refl n) hnK; rw [Z.eg n hnK] at this; omega)
  have hget : ∀ j : Nat, n + j < K → (E.drop n).getD j 0 = e (n + j) - pl := fun j hj => by
    rw [List.getD_eq_getElem?_getD, List.getElem?_drop, ← List.getD_eq_getElem?_getD]
    exact Z.eg (n + j) hj
  unfold target
  rw [if_pos (by omega)]
  rcases (show many = 1 ∨ many = 2 by omega) with rfl | rfl
  · show oneFwd (codes T) pl (pl + a) = _
    rw [f1, show ((1 : Int) - 1).toNat = 0 from rfl, hget 0 (by omega)]
    simp; omega
  · show oneFwd (codes T) pl (oneFwd (codes T) pl (pl + a)) = _
    have hn1 : n + 1 < K := by omega
    have b1 := Z.lay.es n hnK
    have b2 := Z.lay.se (n + 1) hn1
    have f2 : oneFwd (codes T) pl (e n) = e (n + 1) := Z.lay.fwd (k := n + 1) hn1 (.inr ⟨by omega, by rw [Nat.add_sub_cancel]; exact Int.le_refl _⟩) (by omega) (by omega)
    rw [f1, f2, show ((2 : Int) - 1).toNat = 1 from rfl, hget 1 hn1]
    omega
theorem law_bwd {k : Nat} {T : Str} {S E : List Int} {pl p a many : Int} (hW : Whole k T S E) (hk : 0 < k) (hpl : 0 ≤ pl) (h0 : 0 ≤ p) (h1 : p < S.length) (h : PlaceOf S E p a) (hm : 1 ≤ many ∧ many ≤ 2) (hl : many ≤ (S.filter (fun e => decide (e < a))).reverse.length) :
    target (codes T) pl (pl + a) (0 - many) = pl + (S.filter (fun e => decide (e < a))).reverse.getD (many - 1).toNat 0 := by
  obtain ⟨K, s, e, t, last, hs, Z, hsK⟩ := known_of hpl hW hk
  have hS : S.Pairwise (· < ·) := pair_of fun m hm => by
    rw [Z.sl] at hm
    rw [Z.sg m (by omega), Z.sg (m + 1) hm]
    have := Z.lay.se m (by omega)
    have := Z.lay.es m (by omega)
    omega
  obtain ⟨n, n1, n2, n3, n4⟩ := filt_lt (a := a) hS
  rw [n2] at hl ⊢
  rw [Z.sl] at n1 n4
  rw [List.length_reverse, List.length_take, Z.sl] at hl
  have hn : 0 < n := by omega
  have f1 : oneBwd (codes T) pl (pl + a) = s (n - 1) := Z.bwd1 h0 h1 h (by omega) (by have := n3 (n - 1) (by omega); rw [Z.sg _ (by omega)] at this; omega) (fun q => by
    rw [show n - 1 + 1 = n by omega] at q ⊢
    have := n4 n (Nat.le_refl n) q
    rw [Z.sg n q] at this; omega)
  have hget : ∀ j : Nat, j < n → (S.take n).reverse.getD j 0 = s (n - 1 - j) - pl := fun j hj => by
    have hlen : (S.take n).length = n := by rw [List.length_take, Z.sl]; omega
    rw [List.getD_eq_getElem?_getD, List.getElem?_reverse (by omega), hlen, List.getElem?_take_of_lt (by omega), ← List.getD_eq_getElem?_getD]
    exact Z.sg _ (by omega)
  unfold target
  rw [if_neg (by omega)]
  rcases (show many = 1 ∨ many = 2 by omega) with rfl | rfl
  · show oneBwd (codes T) pl (pl + a) = _
    rw [f1, show ((1 : Int) - 1).toNat = 0 from rfl, hget 0 hn]
    simp; omega
  · show oneBwd (codes T) pl (oneBwd (codes T) pl (pl + a)) = _
    have e1 : n - 1 = n - 2 + 1 := by omega
    have b1 := Z.lay.se (n - 2) (by omega)
    have b2 := Z.lay.es (n - 2) (by omega)
    rw [f1, e1, Z.lay.bwd (k := n - 2) (by omega) (by omega) (Int.le_refl _) (fun _ => by omega) (.inr (by omega)), show ((2 : Int) - 1).toNat = 1 from rfl, hget 1 (by omega), show n - 1 - 1 = n - 2 by omega]
    omega
theorem row_codes : codes (Str.ofString "Ab. c d.  Ef.") = [65, 98, 46, 32, 99, 32, 100, 46, 32, 32, 69, 102, 46] := by decide +kernel
theorem row_1 : target (codes (Str.ofString "Ab. c d.  Ef.")) 1 1 1 = 9 := by rw [row_codes]; decide +kernel
theorem row_2 : target (codes (Str.ofString "Ab. c d.  Ef.")) 1 1 2 = 14 := by rw [row_codes]; decide +kernel
theorem row_3 : target (codes (Str.ofString "Ab. c d.  Ef.")) 1 14 (-1) = 11 := by rw [row_codes]; decide +kernel
end
section
open PySem PySem.W PyProof.Rows PySem.Calls PySem.Spec
theorem reset_W9 : True := by
  w_top off
  k_with_none
  k_with "* call type:list" => (k_here; (with_reducible show wpAny _ _ (call (Value.type _) [Value.ref _]) _ _ _); k_dflt (refine' list_lst ?zzF ?zzN ?zzm ?zzz ?_; (case zzF => k_asm); (case zzN => k_asm); (case zzm => k_mem); (case zzz => omega)); intro D' c' h' F' N' l1; (try k_lt l1); (try k_sweep); (try dsimp only))
  k_with "* my keep" => ((rename Shared.gens _ = _ => jj); (have jk := Keep.mk jj); (clear jj))
  k_with "* my om" => (
  (repeat ((with_reducible rename (@Ne Nat _ _ ∧ _) => jj); clear jj)); (repeat ((with_reducible rename (@Ne Nat _ _) => jj); clear jj)); (repeat ((with_reducible rename (@LT.lt Nat _ _ _ ∧ _) => jj); clear jj)); omega)
  k_with "* subscriptTail ListComp Name cons Slice ref ref" => (k_here; (with_reducible show wpAny _ _ (subscriptTail _ (PySem.Expr.Slice none none (some _) _) (Value.ref _) (Value.ref _)) _ _ _); k_dflt (refine' rev_slice ?zzF ?zzN ?zzm ?zzi ?zzn ?_ ?zzs; (case zzF => k_asm); (case zzN => k_asm); (case zzm => k_mem); (case zzi => with_reducible assumption); (case zzn => k_extra "* my om"); (case zzs => with_unfolding_all rfl)); intro D' ws' h' F' N' l1 hI' hJ'; (try k_lt l1); (try k_sweep))
  k_with "* exec If BoolOp cons nil" => ((fail_if_success (with_reducible rename JoinMark => jm9)); k_here; (with_reducible show wpAny _ _ (exec (Stmt.If (Expr.BoolOp _ _ _) [Stmt.Return _ _] [] _) _) _ _ _); k_dflt (refine' join_if ?zzjF ?zzjN (fun _ => ?_) (fun h9 tk9 F9 N9 => ?_); (case zzjF => k_asm); (case zzjN => k_asm)); all_goals ((try dsimp only); (try k_fold)))
  k_with "* JoinEnd" => (exact ⟨rfl, _, _, rfl, by first | assumption | fail, by first | assumption | fail⟩)
  k_with "* exec If Compare cons nil" => ((fail_if_success (with_reducible rename JoinMark => jm9)); k_here; (with_reducible show wpAny _ _ (exec (Stmt.If (Expr.Compare _ _ _ _) [Stmt.Expr _ _] [] _) _) _ _ _); k_dflt (refine' join_places ?zzjF ?zzjN ?zzjW ?zzjP (fun _ => ?_) (fun us9 ks9 n9 h9 tk9 F9 N9 I9 hu9 hPl9 => ?_); (case zzjF => k_asm); (case zzjN => k_asm); (case zzjW => assumption); (case zzjP => assumption)); all_goals ((try dsimp only); (try k_fold)))
  k_with "* PlacesEnd" => ((rename Fr _ _ _ _ => nF'); (rename News _ _ _ _ => nP'); (try simp only [List.push_toArray, List.cons_append, List.nil_append] at nP'); first
  | exact ⟨rfl, _, _, _, _, _, rfl, nF', nP', IntsAre.cons _ _ (IntsAre.cons _ _ (IntsAre.cons _ _ IntsAre.nil)), ⟨by simp only [List.length_cons, List.length_nil]; omega, by simp only [List.length_cons, List.length_nil]; omega⟩, fun k hk => place3 hk⟩
  | exact ⟨rfl, _, _, _, _, _, rfl, nF', nP', IntsAre.cons _ _ (IntsAre.cons _ _ (IntsAre.cons _ _ (IntsAre.cons _ _ IntsAre.nil))), ⟨by simp only [List.length_cons, List.length_nil]; omega, by simp only [List.length_cons, List.length_nil]; omega⟩, fun k hk => place4 hk (by assumption)⟩
  | fail)
  k_with "* my ar" => ((try simp only [Str.length_append, List.length_append, List.length_cons, List.length_nil, rangeKs_length]); k_extra "* my om")
  k_with "* my junk" => (
  (try (rename Ground _ _ _ _ _ _ _ _ _ => jj; clear jj)); (try (rename Flt.MathXP _ _ _ => jj; clear jj)); (try (rename LooseAre _ _ _ => jj; clear jj)); (try (rename Glob _ _ _ _ _ _ _ _ => jj; clear jj)); (try (rename Tables _ _ _ _ => jj; clear jj)); (try (rename TopE _ _ _ _ => jj; clear jj)); (try (rename TopW _ _ _ => jj; clear jj)); (try (rename BMod _ _ _ _ _ => jj; clear jj));
  (try (rename Heap.CodeRec _ _ _ => jj; clear jj)); (try (rename ReadsAll _ _ _ _ => jj; clear jj)); (try (rename Well _ _ _ _ => jj; clear jj)); (try (rename Reads _ _ _ _ => jj; clear jj)); (try (rename ReadsAllW _ _ _ _ _ _ => jj; clear jj)); (try (rename Dflts _ _ _ _ _ _ => jj; clear jj)); (try (rename Heap.get? _ _ = some _ => jj; clear jj)); 
  (try (rename Shape.has _ _ = true => jj; clear jj)); (try (rename PyData.layableAll0 _ = true => jj; clear jj)); (try (rename PyData.layable0 _ = true => jj; clear jj)); (try (rename WShape.hasAll _ _ _ = true => jj; clear jj)); (try (rename WData.layableAll _ = true => jj; clear jj)); (try (rename True => jj; clear jj)); (try (rename kHook _ _ _ => jj; clear jj)))
  k_with "* my sidesM" => (
  (case zzk1 => k_asm); (case zzk2 => k_asm); (case zzk3 => k_asm); (case zzk4 => k_asm); (case zzk5 => k_asm);
  (case zzkK => first | exact rfl | assumption);
  (case zzkd => ktr_room); (case zzku => ktr_units);
  (case zzkU => k_updF); (case zzkI => with_reducible assumption); (case zzkD => assumption))
  k_with "* call ref cons nil" => k_extra "* my call"
  k_with "* my call" => (k_here; (try dsimp only [List.append_nil]); (with_reducible show wpAny _ _ (call (Value.ref 215) _) _ _ _); k_dflt (refine' RM.use (c_draw _ _ _ _ ?zzkq) ?zzk1 ?zzk2 ?zzk3 ?zzk4 ?zzk5 ?zzkK ?zzkd ?zzku ?zzkU ?zzkI ?zzkD (fun _ _ => trivial) ?_); (case zzkq => first | assumption | k_extra "* my om" | (constructor <;> k_extra "* my om")); k_extra "* my sidesM"; intro v9 h9 tk9 us9 ks9 n9 ho9 F9 N9 I9 K9; obtain ⟨x9, t9, e9, hx0, hx1⟩ := ho9; subst e9; (try dsimp only at N9); (try dsimp only); (try k_fold))
  k_with "* my call" => (k_here; (try dsimp only [List.append_nil]); (with_reducible show wpAny _ _ (call (Value.ref 227) _) _ _ _); k_dflt (refine' RM.use (c_one _ _ _ _ _ ?zzkq) ?zzk1 ?zzk2 ?zzk3 ?zzk4 ?zzk5 ?zzkK ?zzkd ?zzku ?zzkU ?zzkI ?zzkD ?zzkP ?_); k_extra "* my sidesM"; (case zzkP => (intro rest9 hr9; exact hr9 _ (by k_mem) (by k_ne))); (case zzkq => (constructor <;> (simp only [List.length_cons, List.length_nil]; k_extra "* my om"))); intro v9 h9 tk9 us9 ks9 n9 ho9 F9 N9 I9 K9; (try dsimp only at N9); obtain ⟨x9, t9, e9, hx9⟩ := texts_mem rfl ho9; (dsimp only [textsOf] at hx9); subst e9; clear ho9; (have hl9 : x9.length ≤ 8 := (show ∀ x ∈ _, PySem.Str.length x ≤ 8 from by decide +kernel) _ hx9); (try dsimp only); (try k_fold))
  k_with "* my call" => (
  k_here; (try dsimp only [List.append_nil]); (with_reducible show wpAny _ _ (call (Value.ref 227) _) _ _ _); (rename News _ _ _ _ => nP'); (try simp only [List.push_toArray, List.cons_append, List.nil_append] at nP');
  (rename (∀ k ∈ _, PlaceOf _ _ _ k) => hPl9);
  k_dflt (refine' RM.use (c_one _ _ _ _ _ ?zzkq) ?zzk1 ?zzk2 ?zzk3 ?zzk4 ?zzk5 ?zzkK ?zzkd ?zzku ?zzkU ?zzkI ?zzkD ?zzkP ?_); k_extra "* my sidesM"; (case zzkP => (intro rest9 hr9; exact hr9 _ (by k_mem) (by k_ne))); (case zzkq => (constructor <;> k_extra "* my om"));
  intro v9 h9 tk9 us9 ks9 n9 ho9 F9 N9 I9 K9; (try dsimp only at N9); obtain ⟨x9, t9, e9, hP9⟩ := places_mem (by assumption) hPl9 ho9; subst e9; clear ho9;
  (have hB9 := place_bd (by assumption) (by k_extra "* my om") (by k_extra "* my om") (by k_extra "* my om") hP9); (try dsimp only); (try k_fold))
  k_with "* my call" => (
  k_here; (try dsimp only [List.append_nil]); (with_reducible show wpAny _ _ (call (Value.ref 165) _) _ _ _);
  k_dflt (refine' RO.use (c_target _ _ _ _ _ _ _ _ ?zzkq) ?zzk1 ?zzk2 ?zzk3 ?zzk4 ?zzk5 ?zzkK ?zzkP ?zzkd ?zzku ?_; (case zzk1 => k_asm); (case zzk2 => k_asm); (case zzk3 => k_asm); (case zzk4 => k_asm); (case zzk5 => k_asm); (case zzkK => first | exact rfl | assumption); (case zzkP => exact ⟨_, _, _, _, _, _, _, by k_mem, by k_mem, by k_mem, by assumption, by (rw [codes_len]; first | decide +kernel | k_extra "* my om"), by k_extra "* my om", by k_extra "* my om"⟩); (case zzkd => ktr_room); (case zzku => ktr_units); (case zzkq => (refine ⟨by k_extra "* my om", ?_, by k_extra "* my om", by k_extra "* my om"⟩; rw [codes_len]; first | decide +kernel | k_extra "* my om")));
  intro t9 h9 tk9 F9 N9; (try dsimp only); (try k_fold))
  k_with "* my call" => (k_here; (try dsimp only [List.append_nil]); (with_reducible show wpAny _ _ (call (Value.ref 237) _) _ _ _); k_dflt (refine' RM.use (c_sentence _ _ _) ?zzk1 ?zzk2 ?zzk3 ?zzk4 ?zzk5 ?zzkK ?zzkd ?zzku ?zzkU ?zzkI ?zzkD (fun _ _ => trivial) ?_); k_extra "* my sidesM"; intro v9 h9 tk9 us9 ks9 n9 ho9 F9 N9 I9 K9; obtain ⟨x9, t9, e9, hl9, hx9⟩ := ho9; subst e9; (try dsimp only at N9); (try dsimp only); (try k_fold))
  k_with "* my call" => (k_here; (try dsimp only [List.append_nil]); (with_reducible show wpAny _ _ (call (Value.ref 220) _) _ _ _); k_dflt (refine' RD.use (c_deck_of _ _ _ _) ?zzk1 ?zzk2 ?zzk3 ?zzk4 ?zzk5 ?zzkK ?zzkd ?zzku ?zzkL ?zzkI ?zzkn ?_; (case zzk1 => k_asm); (case zzk2 => k_asm); (case zzk3 => k_asm); (case zzk4 => k_asm); (case zzk5 => k_asm); (case zzkK => first | exact rfl | assumption); (case zzkd => ktr_room); (case zzku => ktr_units); (case zzkL => assumption); (case zzkI => assumption); (case zzkn => k_extra "* my om")); intro q9 h9 tk9 us9 ks9 n9 F9 N9 l1 I9 K9; (try k_lt l1); (try dsimp only at N9); (try dsimp only); (try k_fold))
  k_with "* call type:range" => (k_here; (with_reducible show wpAny _ _ (call _ [_]) _ _ _); (rename Fr _ _ _ _ => F'); (rename News _ _ _ _ => N'); (with_unfolding_all refine range1_rows F' N' ?_; intro _ _ _ _ _ _ _ _ _))
  k_with "* eval ListComp" => (k_here; (with_reducible show wpAny _ _ (eval (Expr.ListComp (Expr.Name _ _) _ _ _) _) _ _ _); k_dflt (refine LCt.ListComp_T (F₀ := by k_asm) (by with_unfolding_all rfl) (by decide) (by rfl) (by decide) (by rfl) ?_))
  k_with "* eval ListComp" => (k_here; (with_reducible show wpAny _ _ (eval (Expr.ListComp (Expr.Call _ _ _ _) _ _ _) _) _ _ _); k_dflt (refine ListComp_S (F₀ := by k_asm) (by with_unfolding_all rfl) (by decide) (by rfl) (by decide) (by rfl) ?_))
  k_with "* exec Assign cons ListComp" => (k_here; k_dflt (refine LCt.Assign_ListComp_T (F₀ := by k_asm) (by rfl) (by with_unfolding_all rfl) (by with_unfolding_all rfl) (by decide) (by rfl) (by decide) (by rfl) (by rfl) (by rfl) ?_))
  k_with "* exec For Name Call cons nil" => (k_here; (rename Fr _ _ _ _ => lF'); (with_unfolding_all refine' For_invVF lF' ?zzk1 ?zzk2 ?_; (case zzk1 => exact rfl); (case zzk2 => exact rfl); k_whole))
  k_with "* InvEndN" => k_dflt ((rename News _ _ _ _ => nE'); (try simp only [List.push_toArray] at nE'); (refine kst_end ⟨_, _, _, _, _, _, _, _, _, _, _⟩ (by first | assumption | fail) nE' (by first | kst_inAny | kst_in | fail) (by first | (intro p hp; kst_mem) | kst_anyIn | fail) (by rfl) (by first | kst_facts | fail) (by first | kst_all | fail) (by first | kst_same | fail) (by first | kst_p | fail)))
  k_with "* InvEndN" => k_dflt ((rename (Obj.data _ = Data.cell (some _)) => nC9); (rename Fr _ _ _ _ => nF'); (rename News _ _ _ _ => nE'); (refine kst_end (σ := DcS) ⟨_, _, _, _⟩ nF' nE' (by first | kst_in | kst_inAny | fail) (by first | (intro p hp; kst_mem) | kst_anyIn | fail) (by rfl) ⟨by first | assumption | fail, by first | assumption | fail, _, by first | assumption | rfl | fail⟩ (List.forall_mem_nil _) (by first | kst_same | fail) trivial))
  k_with "* CompSrcT" => (
  k_here; (with_reducible show LCt.CompSrcT _ _ _ _ _ _ _ (Expr.Compare _ [CmpOp.Gt] _ _) _ _ _ _ _ _ _);
  k_dflt (refine LCt.CompSrcT.ledger (by rfl) (by k_asm) (by k_asm) (by k_mem) (by (rw [List.size_toArray, PySem.sizeLine_eq]; k_extra "* my om")) ?_);
  intro g'; k_dflt (refine' comp_cell (fun b e => decide (b < e)) (Str.ofString "_law_at") ?zzcA ?zzcM ?zzcD ?zzcI (fun k t I oI C oC D m2 ys l pre h2 tk2 E2 hk2 hy2 hR2 hC hx F2 N2 off2 ne2 => ?_) (fun ys hy2 => ?_));
  k_dflt (case zzcA => with_unfolding_all rfl); k_dflt (case zzcM => k_mem); (case zzcD => assumption); k_dflt (case zzcI => with_reducible assumption);
  all_goals ((try dsimp only at N2); (try dsimp only at off2); (try (simp only [LCg.Off3, and_true] at off2)); (try (have hyl := IntsAre.length hy2; have hyf : ys.length ≤ _ := Nat.le_trans (Nat.le_of_eq hyl) (List.length_filter_le _ _))); (try dsimp only));
  all_goals (try k_fold))
  k_with "* CompSrcT" => (
  k_here; (with_reducible show LCt.CompSrcT _ _ _ _ _ _ _ (Expr.Compare _ [CmpOp.Lt] _ _) _ _ _ _ _ _ _);
  k_dflt (refine LCt.CompSrcT.ledger (by rfl) (by k_asm) (by k_asm) (by k_mem) (by (rw [List.size_toArray, PySem.sizeLine_eq]; k_extra "* my om")) ?_);
  intro g'; k_dflt (refine' comp_cell (fun b e => decide (e < b)) (Str.ofString "_law_at") ?zzcA ?zzcM ?zzcD ?zzcI (fun k t I oI C oC D m2 ys l pre h2 tk2 E2 hk2 hy2 hR2 hC hx F2 N2 off2 ne2 => ?_) (fun ys hy2 => ?_));
  k_dflt (case zzcA => with_unfolding_all rfl); k_dflt (case zzcM => k_mem); (case zzcD => assumption); k_dflt (case zzcI => with_reducible assumption);
  all_goals ((try dsimp only at N2); (try dsimp only at off2); (try (simp only [LCg.Off3, and_true] at off2)); (try (have hyl := IntsAre.length hy2; have hyf : ys.length ≤ _ := Nat.le_trans (Nat.le_of_eq hyl) (List.length_filter_le _ _))); (try dsimp only));
  all_goals (try k_fold))
  k_with "* call builtin:len" => (k_here; (with_reducible show wpAny _ _ (call (Value.builtin "len") [Value.ref _]) _ _ _); k_dflt (refine' kst_len ?zzk1 ?zzk2 ?zzk3 ?zzk4 ?_; (case zzk1 => k_asm); (case zzk2 => k_mem); (case zzk3 => exact IntsAre.length (by assumption)); (case zzk4 => k_extra "* my om"); k_whole); (try dsimp only))
  k_with "* CompEnd" => (
  refine LCg.CompEnd.intro (by assumption) (by assumption) _ ?zzsub ?zzoff trivial ⟨rfl, _, rfl⟩; (case zzsub => kcf_all); (case zzoff => (simp only [LCg.Off3, and_true]; assumption)))
  k_with "* CompEnd" => (
  (rename (_ = List.filter _ _) => hR9);
  (first | refine LCg.CompEnd.intro (by assumption) (by assumption) _ ?zzsub ?zzoff ?zzS ⟨rfl, _, _, rfl, filt_yes hR9 (decide_eq_true (by assumption))⟩ | refine LCg.CompEnd.intro (by assumption) (by assumption) _ ?zzsub ?zzoff ?zzS ⟨rfl, filt_no hR9 (decide_eq_false (by assumption))⟩);
  (case zzsub => kcf_all); (case zzoff => (simp only [LCg.Off3, and_true]; assumption)); k_dflt (case zzS => exact Or.inr ⟨_, by k_mem, rfl, _, rfl⟩))
  k_with "* SrcS" => (
  (try simp only [rangeKs_length] at *); (try (rename (Whole _ _ _ _) => hW9; have hW1 := whole_pos hW9 (by k_extra "* my om")));
  k_dflt (refine SrcS.intro (by rfl) (by k_asm) (by k_asm) (by rw [PySem.sizeLine_eq]; show Str.length _ ≤ _; first | decide +kernel | k_extra "* my om") ?_);
  intro g'; k_dflt (refine' comp_codes (fun c u I oI C oC D m2 ys h2 tk2 E2 hC hx F2 N2 off2 ne2 => ?_) (fun ys hy2 => ?_));
  all_goals ((try dsimp only at N2); (try dsimp only at off2); (try (simp only [LCg.Off3, and_true] at off2)); (try (have hyl : ys.length ≤ 1000 := by rw [IntsAre.length hy2, codes_len]; first | decide +kernel | k_extra "* my om")); (try dsimp only));
  all_goals (try k_fold))
  k_with "* pyIter ref" => (
  k_here;
  (with_reducible show wpAny _ _ (pyIter (Value.ref _)) (fun it s₂ => LoopAtV _ _ _ _ _ _ _ _ _ it s₂) _ _);
  (rename Fr _ _ _ _ => lF'); (rename News _ _ _ _ => lN'); (rename IsRange _ _ _ _ _ _ _ _ => rgX);
  k_dflt (refine' loop_dc2 [Str.ofString "_law_pick", Str.ofString "_law_places", Str.ofString "_law_later", Str.ofString "_law_many", Str.ofString "_law_earlier"] (Str.ofString "_law_deck") (Str.ofString "_law_at") (by rfl) rgX lF' lN' ?zzcD ?zzcA ?zzcU ?zzcI ?zzcK ?zzcV ?zzcW (fun us2 ks2 c2 co2 v2 pre k t u h2 tk2 own2 hI2 hK2 hc2 hoff2 F2 N2 => ?_) (fun us2 ks2 c2 co2 v2 u h2 tk2 hI2 hK2 hc2 F2 N2 => ?_));
  (case zzcD => with_unfolding_all rfl);
  (case zzcA => with_unfolding_all rfl);
  k_dflt (case zzcU => k_updF);
  k_dflt (case zzcI => with_reducible assumption);
  (case zzcK => assumption);
  k_dflt (case zzcV => (intro o9; (try dsimp only); k_updF));
  (case zzcW => assumption);
  all_goals ((try dsimp only at N2); (try simp only [List.cons_append, List.nil_append] at N2); (try dsimp only at hoff2); (try simp only [List.map_cons, List.map_nil] at hoff2));
  clear rgX;
  all_goals ((try (rename (∀ (b : Addr) (o : Obj), _ = some o → _ = some o) => jj; clear jj)); (try (rename (∀ (b : Addr) (o : Obj), _ = some o → _ = some o) => jj; clear jj)); (try (rename Heap.IsList _ _ _ => jj; clear jj)); (try (rename Heap.IsList _ _ _ => jj; clear jj)); (try (rename IsRange _ _ _ _ _ _ _ _ => jj; clear jj)));
  all_goals (have kMark := kstMark);
  all_goals (try k_fold))
  trivial
theorem st_outer0 {ks : List Int} (h : DeckOk ks) : DeckOk ks ∧ Whole ([] : List Int).length (Str.ofString "") [] [] ∧ ((([] : List Int).length : Nat) : Int) ≤ 3 * ((([] : List Int).length : Nat) : Int) ∧ (((Str.ofString "").length : Nat) : Int) ≤ 300 * ((([] : List Int).length : Nat) : Int) ∧ ([] : List Int).length = ([] : List Int).length :=
  ⟨h, whole_nil, by decide, by decide, rfl⟩
section
variable {prog : Program} {w : World} {A : Around} {E : Value → Shared → Prop} {s : Shared} {h₀ : Heap} {L : Addr} {m : Str → Option Value} {news : List (Addr × Obj)}
theorem list_lst {l : Addr} {ys : List Value} {Q : Value → Shared → Prop} (F : Fr h₀ L s.heap m) (N : News h₀ L s.heap news) (hm : (l, LCg.lst ys) ∈ news) (hsz : ys.length ≤ 1000)
    (h : ∀ D c h', Fr h₀ L h' m → News h₀ L h' ((D, listOf ys.toArray c) :: news) → (∀ q ∈ news, q.1 < D) → Q (.ref D) { s with heap := h' }) : wpAny (model prog w) A (call (.type "list") [.ref l]) Q E s :=
  list_copyK F N (PySem.IsL.isList (n := ys.length) (N _ hm).1) h (by rw [List.size_toArray, sizeLine_eq]; omega)
end
section
variable {prog : Program} {w : World} {A : Around} {E : Value → Shared → Prop} {s : Shared} {env : Env} {h₀ : Heap} {x : Str} {body : List Stmt} {Q : Flow → Shared → Prop}
abbrev DcS := List Value × List Int × Nat × Obj
noncomputable def DcF (c : DcS) : Prop := IntsAre c.1 c.2.1 ∧ DeckOk c.2.1 ∧ ∃ v, c.2.2.2.data = .cell v
/-- four turns that turn the deck and one cell alone -/
theorem loop_dc {r : Addr} {t₀ u₀ v₀ : Tok} {m₀ : Str → Option Value} {news : List (Addr × Obj)} {d a : Addr} {us : List Value} {ks : List Int} {c : Nat} {co : Obj} {v : Option Value} {g : Obj → List (Addr × Obj)} {g2 : Obj → Obj → List (Addr × Obj)} (stored : List Str)
    (hh : A.handled = none) (hr : IsRange s.heap r 0 4 1 t₀ u₀ v₀) (F : Fr h₀ env.locals s.heap m₀) (N : News h₀ env.locals s.heap news) (U : UpdF d (listOf us.toArray c) news g) (hI : IntsAre us ks) (hK : DeckOk ks) (U2 : ∀ o, UpdF a co (g o) (g2 o)) (hc : co.data = .cell v)
    (turn : ∀ us' ks' c' co' v' (pre : List Int) (k : Int) t (u : Str → Option Value) h tk own, IntsAre us' ks' → DeckOk ks' → co'.data = .cell v' → OwnOff own ((g2 (listOf us.toArray c) co).map (·.1)) →
      Fr h₀ env.locals h (fun y => if y = x then some (.int k t) else if stored.contains y then u y else m₀ y) → News h₀ env.locals h (g2 (listOf us'.toArray c') co' ++ own) →
      wpAny (model prog w) A (execs body env) (InvPostN h₀ env.locals (KstS (fun c : DcS => g2 (listOf c.1.toArray c.2.2.1) c.2.2.2) (fun _ => []) DcF x stored m₀ (fun _ _ => True) (pre ++ [k])) own ((g2 (listOf us.toArray c) co).map (·.1)) { s with heap := h, toks := tk } Q) E { s with heap := h, toks := tk })
    (done : ∀ us' ks' c' co' v' (u : Str → Option Value) h tk, IntsAre us' ks' → DeckOk ks' → co'.data = .cell v' → Fr h₀ env.locals h (fun y => if y = x then u y else if stored.contains y then u y else m₀ y) → News h₀ env.locals h (g2 (listOf us'.toArray c') co') → Q .next { s with heap := h, toks := tk }) :
    wpAny (model prog w) A (pyIter (.ref r)) (fun it s₂ => LoopAtV prog w A h₀ env x body Q E it s₂) E s := by
  have e : news = g2 (listOf us.toArray c) co := (updF_same U).trans (updF_same (U2 _))
  refine kst_range (σ := DcS) (n := 4) (fun c : DcS => g2 (listOf c.1.toArray c.2.2.1) c.2.2.2) (fun _ => []) DcF stored (fun _ _ => True) (us, ks, c, co) hh hr (by decide) (by decide) F (e ▸ N) ⟨hI, hK, v, hc⟩ (List.forall_mem_nil _) trivial ?_ ?_
  · rintro ⟨us', ks', c', co'⟩ pre k t u h tk own _ _ hoff ⟨h1, h2, v', h3⟩ _ F' N'
    exact turn us' ks' c' co' v' pre k t u h tk own h1 h2 h3 hoff F' N'
  · rintro ⟨us', ks', c', co'⟩ u h tk ⟨h1, h2, v', h3⟩ _ F' N'
    exact done us' ks' c' co' v' u h tk h1 h2 h3 F' N'
end
theorem loop_dc2 {prog : Program} {w : World} {A : Around} {E : Value → Shared → Prop} {s : Shared} {env : Env} {h₀ : Heap} {x : Str} {body : List Stmt} {Q : Flow → Shared → Prop}
    {r : Addr} {t₀ u₀ v₀ : Tok} {m₀ : Str → Option Value} {news : List (Addr × Obj)} {d a : Addr} {us : List Value} {ks : List Int} {c : Nat} {co : Obj} {v : Option Value} {g : Obj → List (Addr × Obj)} {g2 : Obj → Obj → List (Addr × Obj)} (stored : List Str) (dn an : Str)
    (hh : A.handled = none) (hr : IsRange s.heap r 0 4 1 t₀ u₀ v₀) (F : Fr h₀ env.locals s.heap m₀) (N : News h₀ env.locals s.heap news) (_hd : m₀ dn = some (.ref d)) (_ha : env.cells.lookup an = some a) (U : UpdF d (listOf us.toArray c) news g) (hI : IntsAre us ks) (hK : DeckOk ks) (U2 : ∀ o, UpdF a co (g o) (g2 o)) (hc : co.data = .cell v)
    (turn : ∀ us' ks' c' co' v' (pre : List Int) (k : Int) t (u : Str → Option Value) h tk own, IntsAre us' ks' → DeckOk ks' → co'.data = .cell v' → OwnOff own ((g2 (listOf us.toArray c) co).map (·.1)) →
      Fr h₀ env.locals h (fun y => if y = x then some (.int k t) else if stored.contains y then u y else m₀ y) → News h₀ env.locals h (g2 (listOf us'.toArray c') co' ++ own) →
      wpAny (model prog w) A (execs body env) (InvPostN h₀ env.locals (KstS (fun c : DcS => g2 (listOf c.1.toArray c.2.2.1) c.2.2.2) (fun _ => []) DcF x stored m₀ (fun _ _ => True) (pre ++ [k])) own ((g2 (listOf us.toArray c) co).map (·.1)) { s with heap := h, toks := tk } Q) E { s with heap := h, toks := tk })
    (done : ∀ us' ks' c' co' v' (u : Str → Option Value) h tk, IntsAre us' ks' → DeckOk ks' → co'.data = .cell v' → Fr h₀ env.locals h (fun y => if y = x then u y else if stored.contains y then u y else m₀ y) → News h₀ env.locals h (g2 (listOf us'.toArray c') co') → Q .next { s with heap := h, toks := tk }) :
    wpAny (model prog w) A (pyIter (.ref r)) (fun it s₂ => LoopAtV prog w A h₀ env x body Q E it s₂) E s := loop_dc stored hh hr F N U hI hK U2 hc turn done
section
variable {prog : Program} {w : World} {A : Around} {E : Value → Shared → Prop} {s : Shared} {h₀ : Heap} {L : Addr} {m : Str → Option Value} {news : List (Addr × Obj)}
theorem rev_slice {value slice : PySem.Expr} {l : Addr} {ys : List Value} {ns : List Int} {t : Tok} {ops : List Value} {Q : Value → Shared → Prop} (F : Fr h₀ L s.heap m) (N : News h₀ L s.heap news) (hm : (l, LCg.lst ys) ∈ news) (hi : IntsAre ys ns) (hn : ys.length ≤ 1000)
    (h : ∀ D ws h', Fr h₀ L h' m → News h₀ L h' ((D, listOf (List.toArray ws) 0) :: news) → (∀ p ∈ news, p.1 < D) → IntsAre ws ns.reverse → ws.length = ys.length ∧ ns.reverse.length = ns.length → Q (.ref D) { s with heap := h' })
    (hs : subscripted slice false (.ref l) (.ref s.heap.objs.size) = operate ops (getItem (.ref l) (.ref s.heap.objs.size))) :
    wpAny (model prog w) A (subscriptTail value slice (.ref l) (.ref s.heap.objs.size)) Q E { s with heap := s.heap.push { cls := .type "slice", data := .fields #[.none, .none, .int (-1) t] } } := by
  have hl : s.heap.IsList l ys.toArray := PySem.IsL.isList (n := ys.length) (N _ hm).1
  refine tail_any (Heap.IsList.typeIs (s := { s with heap := s.heap.push { cls := .type "slice", data := .fields #[.none, .none, .int (-1) t] } }) (hl.push _)) list_getitem_lookup
    (wpAny_getItem_list_slice (hl.push _) (Heap.IsSliceOf.new ..) .none .none (IsPart.int _ _) (by decide) ?_ (by rw [List.size_toArray, sizeLine_eq]; omega)) hs
  have N1 := News.push (F.push { cls := .type "slice", data := .fields #[.none, .none, .int (-1) t] }) (N.grown fun _ _ e => Heap.get?_push_of_some _ e) { cls := .type "list", data := .seq (slicePick ys.toArray none none (some (-1))) }
  rw [Heap.size_push] at N1
  show Q (.ref (s.heap.push _).objs.size) _
  rw [Heap.size_push]
  rw [krv_pick] at N1 ⊢
  exact h _ ys.reverse _ ((F.push _).push _) N1 (fun p hp => Nat.lt_succ_of_lt (Heap.lt_size (N p hp).1)) hi.reverse ⟨List.length_reverse .., List.length_reverse ..⟩
end
/-- within an if whose ways are to meet -/
structure JoinMark : Prop where
/-- what holds where the ways behind an if meet: nothing is changed -/
structure JoinEnd (h₀ : Heap) (L : Addr) (m : Str → Option Value) (news : List (Addr × Obj)) (s : Shared) (f : Flow) (s' : Shared) : Prop where
  e : f = .next
  x : ∃ h tk, s' = { s with heap := h, toks := tk } ∧ Fr h₀ L h m ∧ News h₀ L h news
section
variable {prog : Program} {w : World} {A : Around} {E : Value → Shared → Prop} {s : Shared} {h₀ : Heap} {L : Addr} {m : Str → Option Value} {news : List (Addr × Obj)}
theorem join_if {st : Stmt} {env : Env} {Q : Flow → Shared → Prop} (_F : Fr h₀ L s.heap m) (_N : News h₀ L s.heap news)
    (go : JoinMark → wpAny (model prog w) A (exec st env) (JoinEnd h₀ L m news s) E s)
    (rest : ∀ h tk, Fr h₀ L h m → News h₀ L h news → Q .next { s with heap := h, toks := tk }) : wpAny (model prog w) A (exec st env) Q E s :=
  wpAny_mono (go ⟨⟩) (fun f s' hj => by
    obtain ⟨rfl, h, tk, rfl, F', N'⟩ := hj
    exact rest h tk F' N') fun _ _ e => e
end
/-- where the two ways behind the law's «if there is a next sentence» meet: the list at l holds places, and three or four of them -/
structure PlacesEnd (h₀ : Heap) (L : Addr) (m : Str → Option Value) (l : Addr) (tail : List (Addr × Obj)) (S E : List Int) (p : Int) (s : Shared) (f : Flow) (s' : Shared) : Prop where
  e : f = .next
  x : ∃ us ks c h tk, s' = { s with heap := h, toks := tk } ∧ Fr h₀ L h m ∧ News h₀ L h ((l, listOf (List.toArray us) c) :: tail) ∧ IntsAre us ks ∧ (1 ≤ us.length ∧ us.length ≤ 4) ∧ ∀ k ∈ ks, PlaceOf S E p k
section
variable {prog : Program} {w : World} {A : Around} {E : Value → Shared → Prop} {s : Shared} {h₀ : Heap} {L : Addr} {m : Str → Option Value} {tail : List (Addr × Obj)}
theorem join_places {st : Stmt} {env : Env} {Q : Flow → Shared → Prop} {l : Addr} {o : Obj} {S T : List Int} {p : Int} {kk : Nat} {tx : Str} (_F : Fr h₀ L s.heap m) (_N : News h₀ L s.heap ((l, o) :: tail)) (_hW : Whole kk tx S T) (_hp : p < (S.length : Int))
    (go : JoinMark → wpAny (model prog w) A (exec st env) (PlacesEnd h₀ L m l tail S T p s) E s)
    (rest : ∀ us ks c h tk, Fr h₀ L h m → News h₀ L h ((l, listOf (List.toArray us) c) :: tail) → IntsAre us ks → (1 ≤ us.length ∧ us.length ≤ 4) → (∀ k ∈ ks, PlaceOf S T p k) → Q .next { s with heap := h, toks := tk }) : wpAny (model prog w) A (exec st env) Q E s :=
  wpAny_mono (go ⟨⟩) (fun f s' hj => by
    obtain ⟨rfl, us, ks, c, h, tk, rfl, F', N', i', u', p'⟩ := hj
    exact rest us ks c h tk F' N' i' u' p') fun _ _ e => e
end
theorem places_mem {S T : List Int} {p : Int} : ∀ {us : List Value} {ks : List Int} {v : Value}, IntsAre us ks → (∀ k ∈ ks, PlaceOf S T p k) → v ∈ us → ∃ x t, v = .int x t ∧ PlaceOf S T p x
  | _, _, _, .cons k t hr, hp, hv => by
    rcases List.mem_cons.mp hv with rfl | hv
    · exact ⟨k, t, rfl, hp k (.head _)⟩
    · exact places_mem hr (fun x hx => hp x (.tail _ hx)) hv
/-- a fact laid by, out of the walk's sight -/
structure Keep (P : Prop) : Prop where
  h : P
noncomputable def intsOf : List Value → List Int
  | [] => []
  | .int x _ :: r => x :: intsOf r
  | _ :: r => intsOf r
noncomputable def allInts : List Value → Bool
  | [] => true
  | .int _ _ :: r => allInts r
  | _ :: _ => false
theorem ints_mem {v : Value} : ∀ {vs : List Value}, allInts vs = true → v ∈ vs → ∃ x t, v = .int x t ∧ x ∈ intsOf vs
  | .int x t :: r, h, hv => by
    rcases List.mem_cons.mp hv with rfl | hv
    · exact ⟨x, t, rfl, .head _⟩
    · obtain ⟨y, u, e, hy⟩ := ints_mem (vs := r) h hv
      exact ⟨y, u, e, .tail _ hy⟩
section
open PyProof.Rows
variable {prog : Program} {w : World} {A : Around} {h₀ : Heap} {L : Addr} {m : Str → Option Value} {env : Env} {ct elt : Expr} {x : Str} {scope : Scope} {cl : List (Str × Addr)} {s : Shared} {S : List (Addr × Obj) → Prop} {P : Nat → Value → Prop} {Fin : List Value → List (Addr × Obj) → Prop} {news : List (Addr × Obj)}
/-- the items that pass a test against the int in a cell -/
theorem comp_cell {vs : List Value} {ns : List Int} {a : Addr} {co : Obj} {b : Int} {tb : Tok} (q : Int → Int → Bool) (an : Str) (_ha : env.cells.lookup an = some a) (_hm : (a, co) ∈ news) (_hd : co.data = .cell (some (.int b tb))) (hi : IntsAre vs ns)
    (turn : ∀ k t I oI C oC D m₂ ys l pre h tk (E' : Value → Shared → Prop), k ∈ ns → IntsAre ys l → l = pre.filter (q b) → LCg.NsObj oC m₂ → m₂ x = some (.int k t) → Fr h₀ L h m → News h₀ L h ((I, oI) :: (C, oC) :: (D, LCg.lst ys) :: news) → LCg.Off3 I C D news → ((@Ne Nat I C) ∧ (@Ne Nat I D) ∧ (@Ne Nat C D)) →
      wpAny (model prog w) A (isTrue ct (compEnvC scope cl C env) (eval ct (compEnvC scope cl C env))) (fun r s' => if r = true then wpAny (model prog w) A (eval elt (compEnvC scope cl C env)) (LCg.CompEnd h₀ L m { s with heap := h, toks := tk } I oI C oC D (LCg.lst ys) S (fun y news' => news' = news ∧ ∃ a t, y = .int a t ∧ l ++ [a] = (pre ++ [k]).filter (q b))) E' s'
        else LCg.CompEnd h₀ L m { s with heap := h, toks := tk } I oI C oC D (LCg.lst ys) S (fun _ news' => news' = news ∧ l = (pre ++ [k]).filter (q b)) Value.none s') E' { s with heap := h, toks := tk })
    (fin : ∀ ys, IntsAre ys (ns.filter (q b)) → Fin ys news) : LCt.CompRestT prog w A h₀ L m env ct elt x scope cl s S (fun i v => vs.toArray[i]? = some v) Fin vs.toArray.size 0 [] news :=
  comp_list (fun pre l => l = pre.filter (q b)) hi rfl turn fun ys l hy hr => fin ys (by rw [← hr]; exact hy)
end
-- the deck's draw
-- the deck's one of written texts
-- the deck's one of ints
-- the project's call
-- the sentence
-- the deck
-- my lenL
set_option maxRecDepth 100000
set_option maxHeartbeats 0
theorem walked : (PySem.Challenge.rw_np0037_01).Holds := hd (by
  k_go0
  all_goals k_extra "* my keep"
  all_goals k_extra "* my junk"
  all_goals try k_fold
  k_with "pyIter ref" => k_of "_law_step" => (k_state_given ["_law_many", "_law_turn"] (fun (many turn : Int) pre deck text starts ends => DeckOk deck ∧ Half pre.length many text starts ends ∧ (starts.length : Int) ≤ 3 * turn + pre.length ∧ (text.length : Int) ≤ 300 * turn + 60 * pre.length ∧ ends.length = starts.length) "_law_deck" "_law_text" "_law_starts" "_law_ends")
  k_with "pyIter ref" => k_of "_law_turn" => (
    k_state (fun pre deck text starts ends => DeckOk deck ∧ Whole pre.length text starts ends ∧ (starts.length : Int) ≤ 3 * pre.length ∧ (text.length : Int) ≤ 300 * pre.length ∧ ends.length = starts.length) "_law_deck" "_law_text" "_law_starts" "_law_ends")
  k_with "state" => (first
    | exact st_outer0 (by assumption)
    | exact ⟨by assumption, half_start (by assumption) (by k_extra "* my om"), by k_extra "* my ar", by k_extra "* my ar", by k_extra "* my ar"⟩
    | exact ⟨by assumption, half_more (by assumption) (by assumption) (decide_eq_true (by k_extra "* my om")) (by assumption) (by k_extra "* my om"), by k_extra "* my ar", by k_extra "* my ar", by k_extra "* my ar"⟩
    | exact ⟨by assumption, half_last (by assumption) (by assumption) (by k_extra "* my om"), by k_extra "* my ar", by k_extra "* my ar", by k_extra "* my ar"⟩
    | (simp only [rangeKs_length] at *; exact ⟨by assumption, whole_more (by assumption) (by k_extra "* my ar") (by assumption), by k_extra "* my ar", by k_extra "* my ar", by k_extra "* my ar"⟩))
  k_steps
  all_goals first
    | ((with_reducible rename (target _ _ _ _ ≠ _ + List.getD (List.reverse _) _ _) => hn9); (refine' absurd (law_bwd ?zw ?zk ?zp ?z0 ?z1 ?zh ?zm ?zl) hn9; (case zh => assumption); (case zw => assumption); (case zk => k_extra "* my om"); (case zp => k_extra "* my om"); (case z0 => k_extra "* my om"); (case z1 => k_extra "* my om"); (case zm => (constructor <;> k_extra "* my om")); (case zl => with_reducible assumption)))
    | ((with_reducible rename (target _ _ _ _ ≠ _ + List.getD (List.filter _ _) _ _) => hn9); (refine' absurd (law_fwd ?zw ?zk ?zp ?z0 ?z1 ?zh ?zm ?zl) hn9; (case zh => assumption); (case zw => assumption); (case zk => k_extra "* my om"); (case zp => k_extra "* my om"); (case z0 => k_extra "* my om"); (case z1 => k_extra "* my om"); (case zm => (constructor <;> k_extra "* my om")); (case zl => with_reducible assumption)))
    | ((rename Keep _ => jk9); (have jg9 := jk9.h); (clear jk9); rw [row_1, row_2, row_3]; (show GoodW _ _ _ _ _ (.ok (.ret (.bool true))) _); wrow_close))
end
end
end Mine
theorem PySem.Challenge.cw_np0037_01_holds : PySem.Challenge.rw_np0037_01.Holds :=
  Mine.walked
