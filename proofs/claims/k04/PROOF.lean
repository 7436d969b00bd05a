import PyProof.Rows.All
import Wide.All
import OpenK.AllK
import Wide.FinOn
import KE.KStateDown
import HandS.Base
import HandS.Call
import HandS.List
import HandS.Comp
import HandS.Ends
import HandS.Text
import HandS.More
import HandS.Words
import HandS.WordsList
import HandS.WordsExc
import HandS.Defaults
import HandS.Head0
import HandS.Head1
import HandS.Head2
import HandS.HeadEnd
import HandS.HeadHook1
import HandS.HeadHook2
import HandS.TupMul
import HandS.TupAny
import HandS.IsInst
import HandS.FStr
import HandS.FStrTup
import HandS.RaiseMore
import HandS.StrMore
import HandS.Style
import HandS.Evl
import PyProof.P3Eq
import PyProof.ReprLen
import PySem.Challenge.RW_carryclaim_k04_whole_written_programs
set_option Elab.async false
set_option linter.all false
set_option maxRecDepth 100000
set_option maxHeartbeats 0
section
set_option autoImplicit false
namespace Cc
open PySem
abbrev Tx := List Nat
def mk (l : Tx) : Str := ⟨l.toArray⟩
theorem mk_len (l : Tx) : (mk l).length = l.length := by simp [mk, Str.length]
theorem mk_app (a b : Tx) : mk a ++ mk b = mk (a ++ b) := by
  show Str.append (mk a) (mk b) = mk (a ++ b)
  simp [Str.append, mk]
theorem mk_inj {a b : Tx} (h : mk a = mk b) : a = b := by
  have := congrArg (fun s : Str => s.cps.toList) h
  simpa [mk] using this
theorem mk_cps (a : Tx) : (mk a).cps.toList = a := by simp [mk]
theorem mk_eq_iff {a b : Tx} : mk a = mk b ↔ a = b := ⟨mk_inj, fun h => by rw [h]⟩
theorem of_mk (s : Str) : s = mk s.cps.toList := by simp [mk]
abbrev kGlobal : Tx := [103, 108, 111, 98, 97, 108]
abbrev kProc : Tx := [112, 114, 111, 99]
abbrev kAsk : Tx := [97, 115, 107]
abbrev kTell : Tx := [116, 101, 108, 108]
abbrev kCheck : Tx := [99, 104, 101, 99, 107]
abbrev kNeed : Tx := [110, 101, 101, 100]
abbrev kReturn : Tx := [114, 101, 116, 117, 114, 110]
abbrev kIf : Tx := [105, 102]
abbrev kElse : Tx := [101, 108, 115, 101]
abbrev kWhile : Tx := [119, 104, 105, 108, 101]
abbrev kCall : Tx := [99, 97, 108, 108]
abbrev kTo : Tx := [116, 111]
abbrev kMod : Tx := [109, 111, 100]
abbrev kNot : Tx := [110, 111, 116]
abbrev kAnd : Tx := [97, 110, 100]
abbrev kOr : Tx := [111, 114]
abbrev sLp : Tx := [40]
abbrev sRp : Tx := [41]
abbrev sLb : Tx := [123]
abbrev sRb : Tx := [125]
abbrev sLs : Tx := [91]
abbrev sRs : Tx := [93]
abbrev sCm : Tx := [44]
abbrev sSc : Tx := [59]
abbrev sEq : Tx := [61]
abbrev sEE : Tx := [61, 61]
abbrev sNe : Tx := [33, 61]
abbrev sLt : Tx := [60]
abbrev sLe : Tx := [60, 61]
abbrev sPl : Tx := [43]
abbrev sMi : Tx := [45]
abbrev sMu : Tx := [42]
abbrev sDi : Tx := [47]
/-- the reserved words -/
def resv : List Tx := [kGlobal, kProc, kAsk, kTell, kCheck, kNeed, kReturn, kIf, kElse, kWhile, kCall, kTo, kMod, kNot, kAnd, kOr]
def isLet (c : Nat) : Bool := decide (97 ≤ c) && decide (c ≤ 122)
def isDig (c : Nat) : Bool := decide (48 ≤ c) && decide (c ≤ 57)
def isWc (c : Nat) : Bool := isLet c || isDig c || c == 95
def wordOk (x : Tx) : Bool := (match x with | [] => false | c :: _ => isLet c) && x.all isWc && decide (x.length ≤ 12)
def nameOk (x : Tx) : Bool := wordOk x && !resv.contains x
/-- decimal digits -/
def dec (n : Nat) : Tx := (Nat.toDigits 10 n).map Char.toNat
def decI (i : Int) : Tx := if i < 0 then 45 :: dec i.natAbs else dec i.natAbs
/-- tokens -/
inductive Tk where
  | w (x : Tx) | n (k : Nat) | s (x : Tx)
  deriving DecidableEq
def Tk.tx : Tk → Tx
  | .w x => x
  | .n k => dec k
  | .s x => x
inductive Sg where
  | add | sub | mul | div | mod
  deriving DecidableEq
def Sg.tx : Sg → Tx
  | .add => sPl | .sub => sMi | .mul => sMu | .div => sDi | .mod => kMod
def Sg.tk : Sg → Tk
  | .mod => .w kMod
  | g => .s g.tx
inductive Rl where
  | lt | le | eq | ne
  deriving DecidableEq
def Rl.tx : Rl → Tx
  | .lt => sLt | .le => sLe | .eq => sEE | .ne => sNe
/-- expressions, conditions, statements, programs -/
inductive Ex where
  | num (i : Int) | name (x : Tx) | op (g : Sg) (l r : Ex)
inductive Co where
  | cmp (r : Rl) (a b : Ex) | not (c : Co) | bin (k : Bool) (a b : Co)
inductive Sm where
  | set (x : Tx) (e : Ex) | ask (x : Tx) | tell (k : Bool) (e : Ex) | chk (k : Bool) (c : Co)
  | call (f : Tx) (es : List Ex) (t : Option Tx) | ite (c : Co) (a b : List Sm) | whil (c : Co) (a : List Sm)
structure Pr where
  name : Tx
  ps : List Tx
  body : List Sm
structure Pg where
  gs : List Tx
  prs : List Pr
def andOr : Bool → Tx
  | true => kAnd
  | false => kOr
def tellRet : Bool → Tx
  | true => kTell
  | false => kReturn
def chkNeed : Bool → Tx
  | true => kCheck
  | false => kNeed
/-- tokens of each -/
def numTk (i : Int) : List Tk := if i < 0 then [.s sMi, .n i.natAbs] else [.n i.natAbs]
def Ex.tk : Ex → List Tk
  | .num i => numTk i
  | .name x => [.w x]
  | .op g l r => .s sLp :: (l.tk ++ g.tk :: (r.tk ++ [.s sRp]))
def Co.tk : Co → List Tk
  | .cmp r a b => a.tk ++ .s r.tx :: b.tk
  | .not c => .w kNot :: c.tk
  | .bin k a b => .s sLs :: (a.tk ++ .w (andOr k) :: (b.tk ++ [.s sRs]))
/-- lists, commas between -/
def commas : List (List Tk) → List Tk
  | [] => []
  | [x] => x
  | x :: y :: r => x ++ .s sCm :: commas (y :: r)
def toTk : Option Tx → List Tk
  | none => []
  | some x => [.w kTo, .w x]
mutual
def Sm.tk : Sm → List Tk
  | .set x e => .w x :: .s sEq :: (e.tk ++ [.s sSc])
  | .ask x => [.w kAsk, .w x, .s sSc]
  | .tell k e => .w (tellRet k) :: (e.tk ++ [.s sSc])
  | .chk k c => .w (chkNeed k) :: (c.tk ++ [.s sSc])
  | .call f es t => .w kCall :: .w f :: .s sLp :: (commas (es.map Ex.tk) ++ .s sRp :: (toTk t ++ [.s sSc]))
  | .ite c a b => .w kIf :: (c.tk ++ .s sLb :: (Sm.tks a ++ .s sRb :: (if b.isEmpty then [] else .w kElse :: .s sLb :: (Sm.tks b ++ [.s sRb]))))
  | .whil c a => .w kWhile :: (c.tk ++ .s sLb :: (Sm.tks a ++ [.s sRb]))
def Sm.tks : List Sm → List Tk
  | [] => []
  | s :: r => s.tk ++ Sm.tks r
end
/-- parameters -/
def psTk (ps : List Tx) : List Tk := commas (ps.map fun x => [Tk.w x])
def Pr.tk (p : Pr) : List Tk := .w kProc :: .w p.name :: .s sLp :: (psTk p.ps ++ .s sRp :: .s sLb :: (Sm.tks p.body ++ [.s sRb]))
def prsTk : List Pr → List Tk
  | [] => []
  | p :: r => p.tk ++ prsTk r
def gsTk : List Tx → List Tk
  | [] => []
  | x :: r => .w kGlobal :: .w x :: .s sSc :: gsTk r
def Pg.tk (p : Pg) : List Tk := gsTk p.gs ++ prsTk p.prs
/-- the texts -/
def Ex.tx : Ex → Tx
  | .num i => decI i
  | .name x => x
  | .op g l r => sLp ++ (l.tx ++ [32] ++ g.tx ++ [32] ++ r.tx ++ sRp)
def Co.tx : Co → Tx
  | .cmp r a b => a.tx ++ [32] ++ r.tx ++ [32] ++ b.tx
  | .not c => kNot ++ [32] ++ c.tx
  | .bin k a b => sLs ++ (a.tx ++ [32] ++ andOr k ++ [32] ++ b.tx ++ sRs)
/-- joined by a comma and a blank -/
def cjoin : List Tx → Tx
  | [] => []
  | [x] => x
  | x :: y :: r => x ++ [44, 32] ++ cjoin (y :: r)
def toTx : Option Tx → Tx
  | none => []
  | some x => [32] ++ kTo ++ [32] ++ x
/-- a statement without blocks, without its end -/
def Sm.simple : Sm → Tx
  | .set x e => x ++ [32, 61, 32] ++ e.tx
  | .ask x => kAsk ++ [32] ++ x
  | .tell k e => tellRet k ++ [32] ++ e.tx
  | .chk k c => chkNeed k ++ [32] ++ c.tx
  | .call f es t => kCall ++ [32] ++ f ++ sLp ++ cjoin (es.map Ex.tx) ++ sRp ++ toTx t
  | .ite _ _ _ => []
  | .whil _ _ => []
def four : Tx := [32, 32, 32, 32]
mutual
def Sm.lines : Sm → Tx → List Tx
  | .ite c a b, ind => (ind ++ kIf ++ [32] ++ c.tx ++ [32, 123]) :: (Sm.liness a (ind ++ four) ++ ((if b.isEmpty then [] else (ind ++ [125, 32] ++ kElse ++ [32, 123]) :: Sm.liness b (ind ++ four)) ++ [ind ++ [125]]))
  | .whil c a, ind => (ind ++ kWhile ++ [32] ++ c.tx ++ [32, 123]) :: (Sm.liness a (ind ++ four) ++ [ind ++ [125]])
  | .set x e, ind => [ind ++ Sm.simple (.set x e) ++ [59]]
  | .ask x, ind => [ind ++ Sm.simple (.ask x) ++ [59]]
  | .tell k e, ind => [ind ++ Sm.simple (.tell k e) ++ [59]]
  | .chk k c, ind => [ind ++ Sm.simple (.chk k c) ++ [59]]
  | .call f es t, ind => [ind ++ Sm.simple (.call f es t) ++ [59]]
def Sm.liness : List Sm → Tx → List Tx
  | [], _ => []
  | s :: r, ind => s.lines ind ++ Sm.liness r ind
end
def Pr.lines (p : Pr) : List Tx := (kProc ++ [32] ++ p.name ++ sLp ++ cjoin p.ps ++ sRp ++ [32, 123]) :: (Sm.liness p.body four ++ [[125]])
def Pg.lines (p : Pg) : List Tx := p.gs.map (fun x => kGlobal ++ [32] ++ x ++ [59]) ++ p.prs.flatMap Pr.lines
def unlines (ls : List Tx) : Tx := ls.flatMap fun l => l ++ [10]
def Pg.tx (p : Pg) : Tx := unlines p.lines
/-- the data -/
def S (x : Tx) : PyData := .str (mk x)
def Ex.da : Ex → PyData
  | .num i => .tuple [.str (Str.ofString "number"), .int i]
  | .name x => .tuple [.str (Str.ofString "name"), S x]
  | .op g l r => .tuple [.str (Str.ofString "op"), S g.tx, l.da, r.da]
def Co.da : Co → PyData
  | .cmp r a b => .tuple [.str (Str.ofString "compare"), S r.tx, a.da, b.da]
  | .not c => .tuple [S kNot, c.da]
  | .bin k a b => .tuple [S (andOr k), a.da, b.da]
def optDa : Option Tx → PyData
  | none => .none
  | some x => S x
mutual
def Sm.da : Sm → PyData
  | .set x e => .tuple [.str (Str.ofString "set"), S x, e.da]
  | .ask x => .tuple [S kAsk, S x]
  | .tell k e => .tuple [S (tellRet k), e.da]
  | .chk k c => .tuple [S (chkNeed k), c.da]
  | .call f es t => .tuple [S kCall, S f, .tuple (es.map Ex.da), optDa t]
  | .ite c a b => .tuple [S kIf, c.da, .tuple (Sm.das a), .tuple (Sm.das b)]
  | .whil c a => .tuple [S kWhile, c.da, .tuple (Sm.das a)]
def Sm.das : List Sm → List PyData
  | [] => []
  | s :: r => s.da :: Sm.das r
end
def Pr.da (p : Pr) : PyData := .tuple [S p.name, .tuple (p.ps.map S), .tuple (Sm.das p.body)]
def Pg.da (p : Pg) : PyData := .tuple [.tuple (p.gs.map S), .tuple (p.prs.map Pr.da)]
/-- what the law builds -/
def Ex.ok : Nat → Ex → Prop
  | _, .num i => -10000 ≤ i ∧ i ≤ 10000
  | _, .name x => nameOk x = true
  | 0, .op _ _ _ => False
  | n + 1, .op _ l r => l.ok n ∧ r.ok n
def Co.ok : Nat → Co → Prop
  | _, .cmp _ a b => a.ok 1 ∧ b.ok 1
  | 0, .not _ => False
  | n + 1, .not c => c.ok n
  | 0, .bin _ _ _ => False
  | n + 1, .bin _ a b => a.ok n ∧ b.ok n
def Sm.ok : Nat → Sm → Prop
  | _, .set x e => nameOk x = true ∧ e.ok 3
  | _, .ask x => nameOk x = true
  | _, .tell _ e => e.ok 3
  | _, .chk _ c => c.ok 2
  | _, .call f es t => nameOk f = true ∧ es.length ≤ 3 ∧ (∀ e ∈ es, e.ok 1) ∧ ∀ x ∈ t, nameOk x = true
  | 0, .ite _ _ _ => False
  | n + 1, .ite c a b => c.ok 2 ∧ a.length ≤ 3 ∧ b.length ≤ 3 ∧ (∀ s ∈ a, Sm.ok n s) ∧ ∀ s ∈ b, Sm.ok n s
  | 0, .whil _ _ => False
  | n + 1, .whil c a => c.ok 2 ∧ a.length ≤ 3 ∧ ∀ s ∈ a, Sm.ok n s
def Pr.ok (p : Pr) : Prop := nameOk p.name = true ∧ p.ps.length ≤ 7 ∧ (∀ x ∈ p.ps, nameOk x = true) ∧ p.body.length ≤ 52 ∧ ∀ s ∈ p.body, s.ok 3
def Pg.ok (p : Pg) : Prop := p.gs.length ≤ 8 ∧ (∀ x ∈ p.gs, nameOk x = true) ∧ p.prs.length ≤ 10 ∧ ∀ q ∈ p.prs, q.ok
end Cc
end
section
namespace Cc
open PySem PySem.Spec PyProof.Rows L2
def top (i : Nat) : Stmt := PySem.Challenge.pw_carryclaim_k04_whole_written_programs.main.body.getD i (.Pass ⟨0, 0, 0, 0⟩)
abbrev s_write : Stmt := top 1
abbrev s_block_lines : Stmt := top 2
abbrev s_statement_lines : Stmt := top 3
abbrev s_simple_text : Stmt := top 4
abbrev s_expression_text : Stmt := top 5
abbrev s_condition_text : Stmt := top 6
abbrev s_tokens : Stmt := top 14
abbrev s_token_at : Stmt := top 15
abbrev s_end_of : Stmt := top 16
abbrev s_number_at : Stmt := top 17
abbrev s_end_place : Stmt := top 25
abbrev s_Reader_init : Stmt := inClass (top 26) 0
abbrev s_Reader_kind : Stmt := inClass (top 26) 1
abbrev s_Reader_value : Stmt := inClass (top 26) 2
abbrev s_Reader_fail : Stmt := inClass (top 26) 3
abbrev s_Reader_is_sign : Stmt := inClass (top 26) 4
abbrev s_Reader_is_word : Stmt := inClass (top 26) 5
abbrev s_Reader_step : Stmt := inClass (top 26) 6
abbrev s_Reader_need_sign : Stmt := inClass (top 26) 7
abbrev s_Reader_need_word : Stmt := inClass (top 26) 8
abbrev s_Reader_need_name : Stmt := inClass (top 26) 9
abbrev s_parse : Stmt := top 27
abbrev s_read_names : Stmt := top 28
abbrev s_read_block : Stmt := top 29
abbrev s_read_statement : Stmt := top 30
abbrev s_read_if : Stmt := top 31
abbrev s_read_call : Stmt := top 32
abbrev s_read_expression : Stmt := top 33
abbrev s_read_number : Stmt := top 34
abbrev s_read_condition : Stmt := top 35
abbrev s__law_next : Stmt := top 37
abbrev s__law_same : Stmt := top 38
abbrev s__law_word : Stmt := top 39
abbrev s__law_reserved : Stmt := top 40
abbrev s__law_name : Stmt := top 41
abbrev s__law_any_expression : Stmt := top 42
abbrev s__law_any_condition : Stmt := top 43
abbrev s__law_any_call : Stmt := top 44
abbrev s__law_any_statement : Stmt := top 45
abbrev s__law_any_block : Stmt := top 46
abbrev s__law_any_program : Stmt := top 47
abbrev s__law_listed : Stmt := top 48
abbrev s__law_expression_words : Stmt := top 49
abbrev s__law_condition_words : Stmt := top 50
abbrev s__law_statement_words : Stmt := top 51
abbrev s__law_block_words : Stmt := top 52
abbrev s__law_program_words : Stmt := top 53
abbrev s__law_gap : Stmt := top 54
abbrev s__law_sign : Stmt := top 55
abbrev s__law_line : Stmt := top 56
abbrev s__law_text : Stmt := top 57
abbrev s_law : Stmt := top 58
/-! ### the head: facts by names -/
def d_write : He.DefD := ⟨("write", none), "write", "write", defArgs s_write, defBody s_write, defScope s_write, [], []⟩
def d_block_lines : He.DefD := ⟨("block_lines", none), "block_lines", "block_lines", defArgs s_block_lines, defBody s_block_lines, defScope s_block_lines, [], []⟩
def d_statement_lines : He.DefD := ⟨("statement_lines", none), "statement_lines", "statement_lines", defArgs s_statement_lines, defBody s_statement_lines, defScope s_statement_lines, [], []⟩
def d_simple_text : He.DefD := ⟨("simple_text", none), "simple_text", "simple_text", defArgs s_simple_text, defBody s_simple_text, defScope s_simple_text, [], []⟩
def d_expression_text : He.DefD := ⟨("expression_text", none), "expression_text", "expression_text", defArgs s_expression_text, defBody s_expression_text, defScope s_expression_text, [], []⟩
def d_condition_text : He.DefD := ⟨("condition_text", none), "condition_text", "condition_text", defArgs s_condition_text, defBody s_condition_text, defScope s_condition_text, [], []⟩
def d_tokens : He.DefD := ⟨("tokens", none), "tokens", "tokens", defArgs s_tokens, defBody s_tokens, defScope s_tokens, [], []⟩
def d_token_at : He.DefD := ⟨("token_at", none), "token_at", "token_at", defArgs s_token_at, defBody s_token_at, defScope s_token_at, [], []⟩
def d_end_of : He.DefD := ⟨("end_of", none), "end_of", "end_of", defArgs s_end_of, defBody s_end_of, defScope s_end_of, [], []⟩
def d_number_at : He.DefD := ⟨("number_at", none), "number_at", "number_at", defArgs s_number_at, defBody s_number_at, defScope s_number_at, [], []⟩
def d_end_place : He.DefD := ⟨("end_place", none), "end_place", "end_place", defArgs s_end_place, defBody s_end_place, defScope s_end_place, [], []⟩
def d_Reader_init : He.DefD := ⟨("Reader", some "__init__"), "__init__", "Reader.__init__", defArgs s_Reader_init, defBody s_Reader_init, defScope s_Reader_init, [], []⟩
def d_Reader_kind : He.DefD := ⟨("Reader", some "kind"), "kind", "Reader.kind", defArgs s_Reader_kind, defBody s_Reader_kind, defScope s_Reader_kind, [], []⟩
def d_Reader_value : He.DefD := ⟨("Reader", some "value"), "value", "Reader.value", defArgs s_Reader_value, defBody s_Reader_value, defScope s_Reader_value, [], []⟩
def d_Reader_fail : He.DefD := ⟨("Reader", some "fail"), "fail", "Reader.fail", defArgs s_Reader_fail, defBody s_Reader_fail, defScope s_Reader_fail, [], []⟩
def d_Reader_is_sign : He.DefD := ⟨("Reader", some "is_sign"), "is_sign", "Reader.is_sign", defArgs s_Reader_is_sign, defBody s_Reader_is_sign, defScope s_Reader_is_sign, [], []⟩
def d_Reader_is_word : He.DefD := ⟨("Reader", some "is_word"), "is_word", "Reader.is_word", defArgs s_Reader_is_word, defBody s_Reader_is_word, defScope s_Reader_is_word, [], []⟩
def d_Reader_step : He.DefD := ⟨("Reader", some "step"), "step", "Reader.step", defArgs s_Reader_step, defBody s_Reader_step, defScope s_Reader_step, [], []⟩
def d_Reader_need_sign : He.DefD := ⟨("Reader", some "need_sign"), "need_sign", "Reader.need_sign", defArgs s_Reader_need_sign, defBody s_Reader_need_sign, defScope s_Reader_need_sign, [], []⟩
def d_Reader_need_word : He.DefD := ⟨("Reader", some "need_word"), "need_word", "Reader.need_word", defArgs s_Reader_need_word, defBody s_Reader_need_word, defScope s_Reader_need_word, [], []⟩
def d_Reader_need_name : He.DefD := ⟨("Reader", some "need_name"), "need_name", "Reader.need_name", defArgs s_Reader_need_name, defBody s_Reader_need_name, defScope s_Reader_need_name, [], []⟩
def d_parse : He.DefD := ⟨("parse", none), "parse", "parse", defArgs s_parse, defBody s_parse, defScope s_parse, [], []⟩
def d_read_names : He.DefD := ⟨("read_names", none), "read_names", "read_names", defArgs s_read_names, defBody s_read_names, defScope s_read_names, [], []⟩
def d_read_block : He.DefD := ⟨("read_block", none), "read_block", "read_block", defArgs s_read_block, defBody s_read_block, defScope s_read_block, [], []⟩
def d_read_statement : He.DefD := ⟨("read_statement", none), "read_statement", "read_statement", defArgs s_read_statement, defBody s_read_statement, defScope s_read_statement, [], []⟩
def d_read_if : He.DefD := ⟨("read_if", none), "read_if", "read_if", defArgs s_read_if, defBody s_read_if, defScope s_read_if, [], []⟩
def d_read_call : He.DefD := ⟨("read_call", none), "read_call", "read_call", defArgs s_read_call, defBody s_read_call, defScope s_read_call, [], []⟩
def d_read_expression : He.DefD := ⟨("read_expression", none), "read_expression", "read_expression", defArgs s_read_expression, defBody s_read_expression, defScope s_read_expression, [], []⟩
def d_read_number : He.DefD := ⟨("read_number", none), "read_number", "read_number", defArgs s_read_number, defBody s_read_number, defScope s_read_number, [], []⟩
def d_read_condition : He.DefD := ⟨("read_condition", none), "read_condition", "read_condition", defArgs s_read_condition, defBody s_read_condition, defScope s_read_condition, [], []⟩
def d__law_next : He.DefD := ⟨("_law_next", none), "_law_next", "_law_next", defArgs s__law_next, defBody s__law_next, defScope s__law_next, [], []⟩
def d__law_same : He.DefD := ⟨("_law_same", none), "_law_same", "_law_same", defArgs s__law_same, defBody s__law_same, defScope s__law_same, [], []⟩
def d__law_word : He.DefD := ⟨("_law_word", none), "_law_word", "_law_word", defArgs s__law_word, defBody s__law_word, defScope s__law_word, [], []⟩
def d__law_reserved : He.DefD := ⟨("_law_reserved", none), "_law_reserved", "_law_reserved", defArgs s__law_reserved, defBody s__law_reserved, defScope s__law_reserved, [], []⟩
def d__law_name : He.DefD := ⟨("_law_name", none), "_law_name", "_law_name", defArgs s__law_name, defBody s__law_name, defScope s__law_name, [], []⟩
def d__law_any_expression : He.DefD := ⟨("_law_any_expression", none), "_law_any_expression", "_law_any_expression", defArgs s__law_any_expression, defBody s__law_any_expression, defScope s__law_any_expression, [], []⟩
def d__law_any_condition : He.DefD := ⟨("_law_any_condition", none), "_law_any_condition", "_law_any_condition", defArgs s__law_any_condition, defBody s__law_any_condition, defScope s__law_any_condition, [], []⟩
def d__law_any_call : He.DefD := ⟨("_law_any_call", none), "_law_any_call", "_law_any_call", defArgs s__law_any_call, defBody s__law_any_call, defScope s__law_any_call, [], []⟩
def d__law_any_statement : He.DefD := ⟨("_law_any_statement", none), "_law_any_statement", "_law_any_statement", defArgs s__law_any_statement, defBody s__law_any_statement, defScope s__law_any_statement, [], []⟩
def d__law_any_block : He.DefD := ⟨("_law_any_block", none), "_law_any_block", "_law_any_block", defArgs s__law_any_block, defBody s__law_any_block, defScope s__law_any_block, [], []⟩
def d__law_any_program : He.DefD := ⟨("_law_any_program", none), "_law_any_program", "_law_any_program", defArgs s__law_any_program, defBody s__law_any_program, defScope s__law_any_program, [], []⟩
def d__law_listed : He.DefD := ⟨("_law_listed", none), "_law_listed", "_law_listed", defArgs s__law_listed, defBody s__law_listed, defScope s__law_listed, [], []⟩
def d__law_expression_words : He.DefD := ⟨("_law_expression_words", none), "_law_expression_words", "_law_expression_words", defArgs s__law_expression_words, defBody s__law_expression_words, defScope s__law_expression_words, [], []⟩
def d__law_condition_words : He.DefD := ⟨("_law_condition_words", none), "_law_condition_words", "_law_condition_words", defArgs s__law_condition_words, defBody s__law_condition_words, defScope s__law_condition_words, [], []⟩
def d__law_statement_words : He.DefD := ⟨("_law_statement_words", none), "_law_statement_words", "_law_statement_words", defArgs s__law_statement_words, defBody s__law_statement_words, defScope s__law_statement_words, [], []⟩
def d__law_block_words : He.DefD := ⟨("_law_block_words", none), "_law_block_words", "_law_block_words", defArgs s__law_block_words, defBody s__law_block_words, defScope s__law_block_words, [], []⟩
def d__law_program_words : He.DefD := ⟨("_law_program_words", none), "_law_program_words", "_law_program_words", defArgs s__law_program_words, defBody s__law_program_words, defScope s__law_program_words, [], []⟩
def d__law_gap : He.DefD := ⟨("_law_gap", none), "_law_gap", "_law_gap", defArgs s__law_gap, defBody s__law_gap, defScope s__law_gap, [], []⟩
def d__law_sign : He.DefD := ⟨("_law_sign", none), "_law_sign", "_law_sign", defArgs s__law_sign, defBody s__law_sign, defScope s__law_sign, [], []⟩
def d__law_line : He.DefD := ⟨("_law_line", none), "_law_line", "_law_line", defArgs s__law_line, defBody s__law_line, defScope s__law_line, [], []⟩
def d__law_text : He.DefD := ⟨("_law_text", none), "_law_text", "_law_text", defArgs s__law_text, defBody s__law_text, defScope s__law_text, [], []⟩
def d_law : He.DefD := ⟨("law", none), "law", "law", defArgs s_law, defBody s_law, defScope s_law, [], []⟩
def fn : List He.DefD := [d_write, d_block_lines, d_statement_lines, d_simple_text, d_expression_text, d_condition_text, d_tokens, d_token_at, d_end_of, d_number_at, d_end_place, d_Reader_init, d_Reader_kind, d_Reader_value, d_Reader_fail, d_Reader_is_sign, d_Reader_is_word, d_Reader_step, d_Reader_need_sign, d_Reader_need_word, d_Reader_need_name, d_parse, d_read_names, d_read_block, d_read_statement, d_read_if, d_read_call, d_read_expression, d_read_number, d_read_condition, d__law_next, d__law_same, d__law_word, d__law_reserved, d__law_name, d__law_any_expression, d__law_any_condition, d__law_any_call, d__law_any_statement, d__law_any_block, d__law_any_program, d__law_listed, d__law_expression_words, d__law_condition_words, d__law_statement_words, d__law_block_words, d__law_program_words, d__law_gap, d__law_sign, d__law_line, d__law_text, d_law]
def fa0 : List He.Fa := [.glo "write", .glo "block_lines", .glo "statement_lines", .glo "simple_text", .glo "expression_text", .glo "condition_text", .glo "tokens", .glo "token_at", .glo "end_of", .glo "number_at", .glo "end_place", .glo "parse", .glo "read_names", .glo "read_block", .glo "read_statement", .glo "read_if", .glo "read_call", .glo "read_expression", .glo "read_number", .glo "read_condition", .glo "_law_next", .glo "_law_same", .glo "_law_word", .glo "_law_reserved", .glo "_law_name", .glo "_law_any_expression", .glo "_law_any_condition", .glo "_law_any_call", .glo "_law_any_statement", .glo "_law_any_block"]
def fa1 : List He.Fa := [.glo "_law_any_program", .glo "_law_listed", .glo "_law_expression_words", .glo "_law_condition_words", .glo "_law_statement_words", .glo "_law_block_words", .glo "_law_program_words", .glo "_law_gap", .glo "_law_sign", .glo "_law_line", .glo "_law_text", .glo "law", .glo "Reader", .free "len", .free "tuple", .free "str", .free "int", .free "abs", .free "range", .free "isinstance", .free "repr", .free "bool", .str "LETTERS" "abcdefghijklmnopqrstuvwxyz", .str "DIGITS" "0123456789", .str "WORD_CHARACTERS" "abcdefghijklmnopqrstuvwxyz0123456789_", .int "WORD_LENGTH" 12, .int "LARGEST" 10000, .glo "SIGNS", .glo "RESERVED", .glo "OPERATIONS"]
def fa2 : List He.Fa := [.glo "RELATIONS", .cls "Reader", .noat "Reader" "found", .noat "Reader" "end", .noat "Reader" "at", .meth "Reader" "kind", .meth "Reader" "value", .meth "Reader" "fail", .meth "Reader" "is_sign", .meth "Reader" "is_word", .meth "Reader" "step", .meth "Reader" "need_sign", .meth "Reader" "need_word", .meth "Reader" "need_name", .mkr "Reader"]
def fa : List He.Fa := fa0 ++ (fa1 ++ (fa2))
def v_SIGNS : List Str := ["==", "!=", "<=", "(", ")", "{", "}", "[", "]", ",", ";", "=", "<", "+", "-", "*", "/"]
def v_RESERVED : List Str := ["global", "proc", "ask", "tell", "check", "need", "return", "if", "else", "while", "call", "to", "mod", "not", "and", "or"]
def v_OPERATIONS : List Str := ["+", "-", "*", "/"]
def v_RELATIONS : List Str := ["<", "<=", "==", "!="]
def ex (K : PySem.W.Frag) : Bool := He.tupB K "SIGNS" (v_SIGNS.map He.Dv.str) && (He.tupB K "RESERVED" (v_RESERVED.map He.Dv.str) && (He.tupB K "OPERATIONS" (v_OPERATIONS.map He.Dv.str) && (He.tupB K "RELATIONS" (v_RELATIONS.map He.Dv.str))))
/-! ### the hook: these facts, and the tables -/
abbrev AlM : Type := He.AlD × Bool
def obsM (fa : List He.Fa) (fn : List He.DefD) (ex : PySem.W.Frag → Bool) (K : PySem.W.Frag) : AlM := (He.obsD fa fn K, ex K)
def valM (fn : List He.DefD) : AlM := (He.valD fn, true)
def hookM (n : Nat) (fa : List He.Fa) (fn : List He.DefD) (ex : PySem.W.Frag → Bool) : PySem.W.Hook where
  α := AlM
  obs := fun s => obsM fa fn ex (He.frG s.heap.get? (He.asD s.heap.get? n))
  val := fun _ => valM fn
  says := fun _ h => ∃ K : PySem.W.Frag, K.In h ∧ obsM fa fn ex K = valM fn
  of := fun _ _ e => ⟨_, He.frG_in, e⟩
  keeps := fun _ _ _ ⟨K, hK, c⟩ k => ⟨K, PySem.W.Frag.In.keeps hK k, c⟩
abbrev R : PySem.W.OpenRow := PySem.W.OpenLaw.row PySem.Challenge.rw_carryclaim_k04_whole_written_programs
abbrev hk : PySem.W.Hook := hookM 4 fa fn ex
def ob (s : PySem.W.SharedT) : AlM := obsM fa fn ex (He.frG (HandSHeadRun.getT s) (He.asD (HandSHeadRun.getT s) 4))
theorem ob_eq (s : PySem.W.SharedT) : ob s = hk.obs s.abs := by
  have e : HandSHeadRun.getT s = s.abs.heap.get? := funext (HandSHeadRun.getT_eq s)
  show obsM fa fn ex (He.frG (HandSHeadRun.getT s) (He.asD (HandSHeadRun.getT s) 4)) = obsM fa fn ex (He.frG s.abs.heap.get? (He.asD s.abs.heap.get? 4))
  rw [e]
def lo0 : List Str := ["write", "block_lines", "statement_lines", "simple_text", "expression_text", "condition_text", "WORD_LENGTH", "LARGEST", "LETTERS", "DIGITS", "WORD_CHARACTERS", "SIGNS", "tokens", "token_at", "end_of", "number_at", "ClaimError", "SyntaxProblem", "RESERVED", "OPERATIONS", "RELATIONS", "end_place", "Reader", "parse", "read_names", "read_block", "read_statement", "read_if", "read_call", "read_expression"]
def lo1 : List Str := ["read_number", "read_condition", "_law_next", "_law_same", "_law_word", "_law_reserved", "_law_name", "_law_any_expression", "_law_any_condition", "_law_any_call", "_law_any_statement", "_law_any_block", "_law_any_program", "_law_listed", "_law_expression_words", "_law_condition_words", "_law_statement_words", "_law_block_words", "_law_program_words", "_law_gap", "_law_sign", "_law_line", "_law_text"]
def loose : List Str := lo0 ++ (lo1)
abbrev qv : Program := PySem.W.view R.prog [58]
theorem run (w : World) : HandSHeadRun.RunEq R qv hk ob 6000 loose w := by
  intro os
  kernel_rfl
end Cc
end
section
namespace Cc
open PySem PySem.Spec PyProof.Rows L2
section
variable {X : Cx}
/-- repr(t), t a tuple or a list of data -/
theorem call_reprD (hg : X.A.guards = some []) (hu : X.A.units + 64 < cLine) : CallR X (.builtin "repr") (fun xs H Q => ∃ a d, xs = [.ref a] ∧ Dp X.K H (.ref a) d ∧ d.showable = true ∧ d.hasDict = false ∧ d.depth ≤ 50 ∧ d.shown.length ≤ sizeLine ∧ Q (.str d.shown) H) := by
  intro pins s σ H xs us Q I r h
  obtain ⟨a, d, rfl, hd, h1, h2, h3, h4, q⟩ := h
  obtain ⟨u, rfl, r1⟩ := vals1 r
  obtain ⟨as, hr⟩ := Dp.reads I d _ _ hd r1
  cases (show u = Value.ref a from r1)
  exact repr_of_reads' hr h1 (PyData.noDict_hsm h2) hg (by omega) (fun _ _ e => e) (fun h' t tk hk => ⟨.str d.shown, H, I.kept hk, ⟨_, rfl⟩, q⟩) h4
/-- s * k, a short text -/
def rRepS : R2 := fun x y H Q => ∃ (z : Tx) (k : Nat), x = .str (mk z) ∧ y = .int (k : Int) ∧ k ≤ 100000 ∧ z.length ≤ 100 ∧ z ≠ [] ∧ Q (.str (mk (List.replicate k z).flatten)) H
theorem foldl_mk (z : Array Nat) : ∀ (k : Nat) (acc : Array Nat), (List.replicate k z).foldl (· ++ ·) acc = acc ++ ((List.replicate k z.toList).flatten).toArray
  | 0, acc => by simp
  | k + 1, acc => by
    rw [List.replicate_succ, List.foldl_cons, foldl_mk z k, List.replicate_succ, List.flatten_cons]
    apply Array.ext'
    simp
theorem op_repS : OpR X (binaryOp .Mult) rRepS := by
  intro pins s σ H x y v u Q I rx ry h
  obtain ⟨z, k, rfl, rfl, hk, hz, hn, q⟩ := h
  obtain ⟨t, rfl⟩ := rx
  obtain ⟨t2, rfl⟩ := ry
  have hl : (mk z).length = z.length := mk_len z
  have hzp : 0 < z.length := List.length_pos_iff.mpr hn
  refine P.mul_str ?_ ?_ ?_ ?_
  · rw [decide_eq_false (by omega), decide_eq_false (by omega)] <;> rfl
  · intro _ _
    rw [hl]
    have : (z.length : Int) ≤ 100 := by omega
    have h2 : (100 : Int) ≤ (2 ^ 63 - 1) / (k : Int) := by
      by_cases hk0 : k = 0
      · omega
      · refine (Int.le_ediv_iff_mul_le (by omega)).mpr (by omega)
    omega
  · intro _ _
    rw [hl]
    unfold PySem.Builtin.Str.tooLong
    have h3 : z.length * k ≤ 100 * 100000 := Nat.mul_le_mul hz hk
    have h4 : (k : Int).toNat = k := by omega
    rw [h4]
    simp [sizeLine]
    omega
  · by_cases h0 : k = 0
    · subst h0
      rw [if_pos (by omega)]
      exact ⟨by decide, .str (mk (List.replicate 0 z).flatten), H, I.tok _, ⟨_, rfl⟩, q⟩
    · rw [if_neg (by omega)]
      by_cases h1 : k = 1
      · subst h1
        rw [if_pos (by simp)]
        have e : (List.replicate 1 z).flatten = z := by simp
        rw [e] at q
        exact ⟨.str (mk z), H, I, ⟨t, rfl⟩, q⟩
      · rw [if_neg (by rw [hl]; simp; exact ⟨by omega, hn⟩)]
        have e : (⟨(List.replicate (k : Int).toNat (mk z).cps).foldl (· ++ ·) #[]⟩ : Str) = mk (List.replicate k z).flatten := by
          rw [foldl_mk]
          simp [mk]
        rw [e]
        exact ⟨by rw [mk_len, List.length_flatten, List.map_replicate, List.sum_replicate_nat]; show k * z.length ≤ 2 ^ 24; have := Nat.mul_le_mul hk hz; omega, .str (mk (List.replicate k z).flatten), H, I.tok _, ⟨_, rfl⟩, q⟩
/-- t * 1, t * 0 -/
theorem tupTimesOne (l : Addr) (items : Array Value) (n : Nat) (dd : Option Addr) (sl : Array (Option Value)) (u : Tok) :
    Meets (Builtin.«tuple.__mul__» ⟨[.ref l, .int 1 u], []⟩) (fun _ R s => s.heap.get? l = some { cls := .type "tuple", dict := dd, data := .seq items n, slots := sl } ∧ R (.ok (.ret (Value.ref l))) s) :=
  .of_wp fun prog w A R s h => by
    obtain ⟨hp, g, d, tk, os⟩ := s
    obtain ⟨hl, h⟩ := h
    have f1 := AutoSeq1.idx_int
    have c1 : (items.isEmpty || (1 : Int) == 1) = true := by simp
    wp_walk using wpAny_loadPart' hl
    exact ⟨_, rfl, h⟩
theorem tupTimesNone (l : Addr) (items : Array Value) (n : Nat) (dd : Option Addr) (sl : Array (Option Value)) (u : Tok) (hi : items.isEmpty = false) :
    Meets (Builtin.«tuple.__mul__» ⟨[.ref l, .int 0 u], []⟩) (fun _ R s => s.heap.get? l = some { cls := .type "tuple", dict := dd, data := .seq items n, slots := sl } ∧
      R (.ok (.ret (Value.ref s.heap.objs.size))) { s with heap := s.heap.push { cls := Value.type "tuple", data := Data.seq #[] }, toks := s.toks }) :=
  .of_wp fun prog w A R s h => by
    obtain ⟨hp, g, d, tk, os⟩ := s
    obtain ⟨hl, h⟩ := h
    have f1 := AutoSeq1.idx_int
    wp_walk using wpAny_loadPart' hl
    exact ⟨_, rfl, h⟩
/-- t * k -/
def rRepA (K : PySem.W.Frag) : R2 := fun x y H Q => ∃ (l : Addr) (k : Nat) (xs : List V), x = .ref l ∧ y = .int (k : Int) ∧ SqT K H l xs ∧ xs ≠ [] ∧ k ≤ 1000 ∧ xs.length ≤ 1000 ∧
  (k = 1 → Q (.ref l) H) ∧ (k ≠ 1 → ∀ p, H p = none → Q (.ref p) (upd H p (.tup (List.replicate k xs).flatten)))
theorem op_repA : OpR X (binaryOp .Mult) (rRepA X.K) := by
  intro pins s σ H x y v u Q I rx ry h
  obtain ⟨l, k, xs, rfl, rfl, hT, hne, h1, hz, q1, q2⟩ := h
  by_cases hk : 2 ≤ k
  · have e := q2 (by omega)
    exact op_repT pins s σ H _ _ v u Q I rx ry ⟨l, (k : Int), xs, rfl, rfl, hT, hne, by omega, by omega, hz, e⟩
  cases rx
  obtain ⟨t, rfl⟩ := ry
  obtain ⟨its, r, ⟨⟨cls, dd, data, sl⟩, ho, hc, n, hd⟩, hs⟩ := I.tuple hT
  simp only at hc hd
  subst hc hd
  have hn : its ≠ [] := fun e => hne (by
    have hle := r.length
    rw [e] at hle
    exact List.eq_nil_of_length_eq_zero hle)
  have hi : its.toArray.isEmpty = false := by
    cases its with
    | nil => exact absurd rfl hn
    | cons a b => rfl
  by_cases k1 : k = 1
  · subst k1
    refine wpAny_binaryOp_repeat_ref (T := "tuple") (U := "int") (by decide) ⟨_, ho, rfl⟩ (fun s' => typeIs_int s' _ t) noFill_tuple_mul F.fills_int_mul F.slot_int_rmul repeat_tuple F.slot_int_index.lookup
      (call_meets F.slot_int_rmul (typeIs_int s _ t) F.entry_int_rmul (F.args_int_rmul_2 _ _) (int_rmul_tuple 1 t l its.toArray n dd sl)
        ⟨ho, rfl, ⟨_, ho, rfl⟩, call_meets F.slot_tuple_mul ⟨_, ho, rfl⟩ F.entry_tuple_mul (F.args_tuple_mul_2 _ _) (tupTimesOne l its.toArray n dd sl t) ⟨ho, ?_⟩⟩)
    exact ⟨.ref l, H, I, rfl, q1 rfl⟩
  · have k0 : k = 0 := by omega
    subst k0
    refine wpAny_binaryOp_repeat_ref (T := "tuple") (U := "int") (by decide) ⟨_, ho, rfl⟩ (fun s' => typeIs_int s' _ t) noFill_tuple_mul F.fills_int_mul F.slot_int_rmul repeat_tuple F.slot_int_index.lookup
      (call_meets F.slot_int_rmul (typeIs_int s _ t) F.entry_int_rmul (F.args_int_rmul_2 _ _) (int_rmul_tuple 0 t l its.toArray n dd sl)
        ⟨ho, rfl, ⟨_, ho, rfl⟩, call_meets F.slot_tuple_mul ⟨_, ho, rfl⟩ F.entry_tuple_mul (F.args_tuple_mul_2 _ _) (tupTimesNone l its.toArray n dd sl t hi) ⟨ho, ?_⟩⟩)
    refine ⟨.ref s.heap.objs.size, _, I.laid (t' := s.toks) (o := .tup (List.replicate 0 xs).flatten) (fun b ob q => Heap.get?_push_of_some _ q) (Nat.le_refl _) ?_, rfl, q2 (by decide) _ (I.hok.fresh (Nat.le_refl _))⟩
    exact ⟨Nat.zero_le _, [], .nil, IsTup.new _ _⟩
end
end Cc
end
section
namespace Cc
open PySem PySem.Spec PyProof.Rows L2
/-! ### the law's own call: as a def's promise, but of a caller under whose hand no text is being made -/
def RunQuiet (P : Program) (w : World) (K : PySem.W.Frag) (mg : Str → Option Value) (base : Heap) (k : Nat) (f : Addr) (fd : FuncData) (ps : List Str) (sp : Sp) : Prop :=
  ∀ (A : Around) (outer : List Env) (s : Shared) (H : Hp) (args : Args) (us : List Value) (vs : List V) (Q : VK), A.guards = some [] → Room k A → Env0 P w K mg base A outer s H →
    BindsTo s fd args (ps.zip us) → Vals vs us → vs.length = ps.length → sp vs H Q E0 → codeAny (model P w) A (.call (.ref f) args) (CR CX0 outer P w H s Q E0) s
theorem runQuiet_of {P : Program} {w : World} {K : PySem.W.Frag} {mg : Str → Option Value} {base : Heap} {x qual : Str} {params : Arguments} {body : List Stmt} {scope : Scope} {f : Addr} {fd : FuncData} {N ps : List Str} {k : Nat} {sp : Sp}
    (F : FunD K x qual params body scope [] [] f fd) (S : FnScope N ps scope)
    (hb : ∀ (cdv : Value) (A : Around) (outer : List Env) (s : Shared) (H : Hp) (vs : List V) (Q : VK), (A.deeper (envOfC qual scope s.heap.objs.size f cdv)).guards = some [] → Room k (A.deeper (envOfC qual scope s.heap.objs.size f cdv)) → sp vs H Q E0 →
      ∃ t, PSs (cxOf CX0 P w K mg base N qual scope f cdv A outer s H E0) body t ∧ t { nx := fun _ H' => Q .non H', rt := Q } (start N vs) H) :
    RunQuiet P w K mg base (k + 1) f fd ps sp := by
  obtain ⟨oc, od, dV, kV, doc, pm, an, cdv, ct, osl, rfl, lk, hcd, _, _⟩ := F.ex
  intro A outer s H args us vs Q quiet room e0 bnd rel hlen hsp
  have inK : K.In s.heap := PySem.W.Frag.In.keeps e0.mod.kin fun b o z => (e0.bs b o z).1
  have inLim : s.heap.NoLimit := e0.mod.nolimit.keeps fun b o z => (e0.bs b o z).1
  refine codeAny_call_function room.depth (inK _ _ lk) rfl S.co S.gen rfl (PySem.W.codeRec_of inK hcd) (bnd _ _ _ _ ?_)
  refine wpAny_newFunctionEnv_cells S.kind (fun y hy => ?_) fun env henv s1 inside => ?_
  · rcases S.par y.1 (List.of_mem_zip (show (y.1, y.2) ∈ ps.zip us from hy)).1 with h | h
    · exact Or.inl h
    · exact Or.inr ⟨h, PySem.W.cellsFrom_some _ _ _ (Or.inl h)⟩
  subst henv
  obtain ⟨t, deriv, reading⟩ := hb cdv A outer s H vs Q quiet (room.deeper _) hsp
  have I0 := inv_start (CX := CX0) (E := E0) S room.hd e0 hlen rel inside
  refine ⟨inLim.keeps inside.toInCall.keep, codeAny_func (wpAny_mono (deriv.run [] s1 (start N vs) H _ I0 reading) (fun fl s2 out => ?_) fun _ _ z => z)⟩
  cases fl with
  | ret u =>
    obtain ⟨v, _, H2, J, rv, q⟩ := out
    exact ⟨v, H2, J.os, J.bare, J.base, J.hok, rv, q⟩
  | next =>
    obtain ⟨_, H2, J, q⟩ := out
    exact ⟨V.non, H2, J.os, J.bare, J.base, J.hok, rfl, q⟩
  | brk =>
    obtain ⟨_, _, _, q⟩ := out
    exact q.elim
  | cont =>
    obtain ⟨_, _, _, q⟩ := out
    exact q.elim
/-- from the heap at the law's entry, in which the script alone is tracked, or nothing -/
theorem quiet_core {P : Program} {w : World} {K : PySem.W.Frag} {mg mb : Str → Option Value} {k : Nat} {fa a : Addr} {fd : FuncData} {x : Str} {sp : Sp} {s : Shared} {vs : List Value}
    (inK : K.In s.heap) (nsG : s.heap.Ns mainGlobals mg) (nsB : s.heap.Ns builtinsNs mb) (std : ∀ y : Str, y ≠ "__name__" → mb y = bootBuiltins y) (inLim : s.heap.NoLimit) (noGens : s.gens = #[])
    (script : s.heap.get? a = some { cls := .type "list", data := .seq vs.toArray }) (room : Room k callerA)
    (F : ∀ base : Heap, K.In base → base.Ns mainGlobals mg → RunQuiet P w K mg base k fa fd [x] sp) (bnd : ∀ (s : Shared) (u : Value), BindsTo s fd ⟨[u], []⟩ [(x, u)])
    (H : Hp) (only : Only H) (hsp : sp [.ref a] H (fun v _ => v = .bl true) E0) (hok : HOk P w H s.heap) (atA : ∀ b, H b ≠ none → b = a) (notK : H a ≠ none → K.lookup a = none) :
    codeAny (model P w) callerA (.call (.ref fa) ⟨[.ref a], []⟩) (fun r s' => r = .ok (.ret (.bool true)) ∧ OldK s.heap s'.heap ∧ s'.os = s.os ∧ AllBare s'.gens) s := by
  have free : ∀ {b : Addr} {o : Obj}, s.heap.get? b = some o → (∀ its n, o.data ≠ .seq its n) → H b = none := fun {b o} e d => by
    refine Classical.byContradiction fun z => ?_
    have eb := atA b z
    subst eb
    rw [script] at e
    cases e
    exact d _ _ rfl
  have bring : ∀ {b : Addr} {m : Str → Option Value}, s.heap.Ns b m → (hidT s.heap H).Ns b m := fun {b m} h => by
    obtain ⟨o, es, ep, e, d, r⟩ := h
    exact ⟨o, es, ep, hidT_get e (free e fun its n z => by rw [d] at z; cases z), d, r⟩
  have kb : K.In (hidT s.heap H) := fun b o e => hidT_get (inK b o e) (Classical.byContradiction fun z => by
    have eb := atA b z
    subst eb
    rw [notK z] at e
    cases e)
  obtain ⟨mc, l1, l2⟩ := inLim
  have md : Mod K mg (hidT s.heap H) := ⟨kb, bring nsG, ⟨mb, bring nsB, std⟩, ⟨mc, bring l1, l2⟩⟩
  have e0 : Env0 P w K mg (hidT s.heap H) callerA [] s H := ⟨rfl, md, fun _ _ e => of_hidT e, Nat.le_of_eq (hidT_size _ _), trivial, (fun _ z => nomatch z), hok, .of_eq noGens⟩
  refine codeAny_mono (F _ kb (bring nsG) callerA [] s H ⟨[.ref a], []⟩ [.ref a] [.ref a] _ rfl room e0 (bnd s _) (.cons rfl .nil) rfl hsp) fun r s' out => ?_
  match r, out with
  | .ok (.ret u), ⟨v, H2, eos, bare, un, hok2, rel, (q : v = .bl true)⟩ =>
    subst q
    cases (show u = Value.bool true from rel)
    refine ⟨rfl, OldK.of_keep fun b o e => ?_, eos, bare⟩
    rcases only b with z | ⟨ob, xs, z⟩
    · exact un.keep b o e z (fun y => nomatch y) (fun y => nomatch y)
    · have e1 := (hok b _ z).1
      have e2 := (hok2 b _ (un.frzs b ob _ z)).1
      rw [e] at e1
      cases e1
      exact e2
  | .ok .next, out => exact False.elim out
  | .ok .brk, out => exact False.elim out
  | .ok .cont, out => exact False.elim out
  | .error e, out => exact False.elim out
theorem quiet_call {P : Program} {w : World} {K : PySem.W.Frag} {mg mb : Str → Option Value} {k : Nat} {fa a : Addr} {fd : FuncData} {x : Str} {sp : Sp} {s : Shared} {vs : List Value} {ns : List Int}
    (inK : K.In s.heap) (nsG : s.heap.Ns mainGlobals mg) (nsB : s.heap.Ns builtinsNs mb) (std : ∀ y : Str, y ≠ "__name__" → mb y = bootBuiltins y) (inLim : s.heap.NoLimit) (noGens : s.gens = #[])
    (script : s.heap.get? a = some { cls := .type "list", data := .seq vs.toArray }) (his : IntsAre vs ns) (few : ns.length ≤ sizeLine) (room : Room k callerA)
    (F : ∀ base : Heap, K.In base → base.Ns mainGlobals mg → RunQuiet P w K mg base k fa fd [x] sp) (bnd : ∀ (s : Shared) (u : Value), BindsTo s fd ⟨[u], []⟩ [(x, u)])
    (hsp : ∀ H : Hp, Only H → SqL K H a (ns.map V.int) → sp [.ref a] H (fun v _ => v = .bl true) E0) :
    codeAny (model P w) callerA (.call (.ref fa) ⟨[.ref a], []⟩) (fun r s' => r = .ok (.ret (.bool true)) ∧ OldK s.heap s'.heap ∧ s'.os = s.os ∧ AllBare s'.gens) s := by
  have rel := vals_ints his
  have same := his.length
  by_cases hk : K.lookup a = none
  · -- the script is tracked, as what is read alone
    have own : ∀ b, (if b = a then some (HO.frz { cls := .type "list", data := .seq vs.toArray } (.lst (ns.map V.int))) else none) ≠ none → b = a := fun b z => Classical.byContradiction fun y => z (if_neg y)
    refine quiet_core inK nsG nsB std inLim noGens script room F bnd (fun b => if b = a then some (.frz { cls := .type "list", data := .seq vs.toArray } (.lst (ns.map V.int))) else none) (fun b => ?_)
      (hsp _ (fun b => ?_) (Or.inl (Or.inr ⟨{ cls := .type "list", data := .seq vs.toArray }, if_pos rfl⟩))) (fun b u z => ?_) own fun _ => hk
    · by_cases hb : b = a
      · exact Or.inr ⟨_, _, if_pos hb⟩
      · exact Or.inl (if_neg hb)
    · by_cases hb : b = a
      · exact Or.inr ⟨_, _, if_pos hb⟩
      · exact Or.inl (if_neg hb)
    · have hb := own b (by show ite _ _ _ ≠ none; rw [show (if b = a then some (HO.frz { cls := .type "list", data := .seq vs.toArray } (.lst (ns.map V.int))) else none) = some u from z]; simp)
      subst hb
      have z2 := (if_pos rfl).symm.trans z
      cases z2
      exact ⟨script, by rw [List.length_map]; exact few, vs, _, rel, script⟩
  · -- it is one of the module's own objects: nothing is tracked
    cases e : K.lookup a with
    | none => exact absurd e hk
    | some o =>
      have eo := inK a o e
      rw [script] at eo
      cases eo
      exact quiet_core inK nsG nsB std inLim noGens script room F bnd (fun _ => none) (fun _ => Or.inl rfl)
        (hsp _ (fun _ => Or.inl rfl) (Or.inr ⟨_, vs.toArray, _, e, rfl, rfl, rfl, by rw [List.size_toArray, same]; exact few, by simpa using rel⟩)) (fun _ _ z => nomatch (show (none : Option HO) = some _ from z)) (fun _ z => absurd rfl z) (fun z => absurd rfl z)
/-- the law's end -/
theorem walk_quiet {l : PySem.W.OpenLaw} {n k : Nat} {q : Program} {loose : List Str} {XP : (Str → Option Value) → Heap → Prop} {YP : World → Heap → Prop} {d : DefRec} {x : Str}
    (most : l.most = some n) (few : n ≤ sizeLine) (plain : d.params.defaults = []) (room : Room k callerA)
    (F : ∀ (w : World) (mg : Str → Option Value) (fa : Addr) (h : Heap), YP w h → h.Ns mainGlobals mg → mg d.name = some (.ref fa) →
      ∃ (K : PySem.W.Frag) (fd : FuncData) (sp : Sp), K.In h ∧ (∀ (s : Shared) (u : Value), BindsTo s fd ⟨[u], []⟩ [(x, u)]) ∧
        (∀ (H : Hp) (a : Addr) (ns : List Int), ns.length ≤ n → Only H → SqL K H a (ns.map V.int) → sp [.ref a] H (fun v _ => v = .bl true) E0) ∧
        ∀ base : Heap, K.In base → base.Ns mainGlobals mg → RunQuiet l.prog w K mg base k fa fd [x] sp) :
    PySem.W.WalkO q loose XP YP l.row.toRowW d [] (fun f vs => PySem.call f vs) := by
  refine Att.attach_call most plain fun w s0 s1 mg mb fa o pm cd doc a vs ns G Y ho hd hcd hmg hobj hints hlen hg => ?_
  obtain ⟨K, fd, sp, inK, bnd, hsp, run⟩ := F w mg fa _ Y G.T.g hmg
  exact quiet_call inK G.T.g G.T.b G.T.builtins G.T.nolimit hg hobj hints (Nat.le_trans hlen few) room run bnd fun H only sq => hsp H a ns hlen only sq
end Cc
end
section
namespace Cc
open PySem PySem.Spec PyProof.Rows L2
/-! ### names of the operations' readings -/
def rAddS : R2 := fun x y H Q => ∃ i j, x = .str i ∧ y = .str j ∧ i.length + j.length ≤ sizeLine ∧ Q (.str (i ++ j)) H
abbrev rAddI : R2 := rI0 fun i j => .int (i + j)
abbrev rSubI : R2 := rI0 fun i j => .int (i - j)
abbrev rMulI : R2 := rI CMul fun i j => .int (i * j)
abbrev rModI : R2 := rI (fun _ j => j ≠ 0) fun i j => .int (i.fmod j)
abbrev rDivI : R2 := rI CDivN fun i j => .int (i.fdiv j)
abbrev rPowI : R2 := rI CPow fun i j => .int (i ^ j.toNat)
abbrev rLtI : R2 := rI0 fun i j => .bl (decide (i < j))
abbrev rGtI : R2 := rI0 fun i j => .bl (decide (j < i))
abbrev rGeI : R2 := rI0 fun i j => .bl (decide (j ≤ i))
abbrev rNegI : V → Hp → VK → Prop := rU fun i => .int (-i)
def rIsNone : R2 := fun x y H Q => y = .non ∧ Q (.bl (decide (x = .non))) H
def rIsntNone : R2 := fun x y H Q => y = .non ∧ Q (.bl (!decide (x = .non))) H
def rInSign : R2 := fun x y H Q => ∃ (c : Nat) (z : Str), x = .str ⟨#[c]⟩ ∧ y = .str z ∧ Q (.bl (decide (c ∈ z.cps.toList))) H
def rNotInSign : R2 := fun x y H Q => ∃ (c : Nat) (z : Str), x = .str ⟨#[c]⟩ ∧ y = .str z ∧ Q (.bl (!decide (c ∈ z.cps.toList))) H
def rNotInStr : R2 := fun x y H Q => ∃ i j, x = .str i ∧ y = .str j ∧ Q (.bl (!(!(Builtin.Str.occurrences j i 0 j.length 1).isEmpty))) H
def cLenS : List V → Hp → VK → Prop := fun xs H Q => ∃ z, xs = [.str z] ∧ z.length ≤ sizeLine ∧ Q (.int z.length) H
def cLen (K : PySem.W.Frag) : List V → Hp → VK → Prop := fun xs H Q => ∃ p ys, xs = [.ref p] ∧ (SqL K H p ys ∨ SqT K H p ys) ∧ Q (.int ys.length) H
def cTup (K : PySem.W.Frag) : List V → Hp → VK → Prop := fun xs H Q => ∃ p ys, xs = [.ref p] ∧ ((SqL K H p ys ∧ ∀ l, H l = none → Q (.ref l) (upd H l (.tup ys))) ∨ (SqT K H p ys ∧ Q (.ref p) H))
def cStrI : List V → Hp → VK → Prop := fun xs H Q => ∃ i, xs = [.int i] ∧ i.natAbs.log2 < 1920 ∧ Q (.str (toString i)) H
def cStrA : List V → Hp → VK → Prop := fun xs H Q => (∃ i, xs = [.int i] ∧ i.natAbs.log2 < 1920 ∧ Q (.str (toString i)) H) ∨ ∃ a, xs = [.str a] ∧ Q (.str a) H
def cInt1 : List V → Hp → VK → Prop := fun xs H Q => (∃ i, xs = [.int i] ∧ Q (.int i) H) ∨ ∃ k, xs = [.bl k] ∧ Q (.int (if k then 1 else 0)) H
def cIntS : List V → Hp → VK → Prop := fun xs H Q => ∃ a n, xs = [.str a] ∧ PySem.intText? a = some n ∧ a.length ≤ 640 ∧ Q (.int n) H
def cAbs : List V → Hp → VK → Prop := fun xs H Q => ∃ i, xs = [.int i] ∧ Q (.int (if i < 0 then -i else i)) H
def cRepr (K : PySem.W.Frag) : List V → Hp → VK → Prop := fun xs H Q => ∃ a d, xs = [.ref a] ∧ Dp K H (.ref a) d ∧ d.showable = true ∧ d.hasDict = false ∧ d.depth ≤ 50 ∧ d.shown.length ≤ sizeLine ∧ Q (.str d.shown) H
def cJoin (K : PySem.W.Frag) : V → List V → Hp → VK → Prop := fun x xs H Q => ∃ a p, ∃ ys : List Str, x = .str a ∧ xs = [.ref p] ∧ (SqL K H p (ys.map V.str) ∨ SqT K H p (ys.map V.str)) ∧
      (ys.map (·.length)).sum + ys.length * a.length ≤ 16777216 ∧ Q (.str (Txt.join a ys)) H
def cSplit : V → List V → Hp → VK → Prop := fun x xs H Q => ∃ a b, x = .str a ∧ xs = [.str b] ∧ (b.length == 0) = false ∧ a.length + 2 ≤ sizeLine ∧ rNewStrs (Txt.split a b) H Q
def tJoin (ts : List TE) : TE := fun σ H Q => tJs ts Str.empty σ H fun out H1 => Q (.str out) H1
abbrev g_LETTERS : Tx := [97, 98, 99, 100, 101, 102, 103, 104, 105, 106, 107, 108, 109, 110, 111, 112, 113, 114, 115, 116, 117, 118, 119, 120, 121, 122]
abbrev g_DIGITS : Tx := [48, 49, 50, 51, 52, 53, 54, 55, 56, 57]
abbrev g_WORD_CHARACTERS : Tx := [97, 98, 99, 100, 101, 102, 103, 104, 105, 106, 107, 108, 109, 110, 111, 112, 113, 114, 115, 116, 117, 118, 119, 120, 121, 122, 48, 49, 50, 51, 52, 53, 54, 55, 56, 57, 95]
section
variable {X : Cx}
theorem pe_lit {s : String} {l : Tx} {j pos} (h : Str.ofString s = mk l) : PE X (.Constant (.str (Str.ofString s)) j pos) (tC (.str (mk l))) := by
  rw [h]
  exact pe_str
/-- str(x) of an int or a text -/
theorem call_str_any : CallR X (.type "str") cStrA := by
  intro pins s σ H xs us Q I r h
  rcases h with h | h
  · exact call_str_int pins s σ H xs us Q I r h
  · exact SkE.call_str_str pins s σ H xs us Q I r h
end
/-! ### what the top's names hold -/
def sgV (l : List Tx) : List V := l.map fun x => V.str (mk x)
structure GF (K : PySem.W.Frag) (mg : Str → Option Value) : Prop where
  len : mg "len" = none
  tuple_ : mg "tuple" = none
  str_ : mg "str" = none
  int_ : mg "int" = none
  abs_ : mg "abs" = none
  range : mg "range" = none
  isinstance_ : mg "isinstance" = none
  repr_ : mg "repr" = none
  bool_ : mg "bool" = none
  LETTERS : ∃ t, mg "LETTERS" = some (.str (mk g_LETTERS) t)
  DIGITS : ∃ t, mg "DIGITS" = some (.str (mk g_DIGITS) t)
  WORD_CHARACTERS : ∃ t, mg "WORD_CHARACTERS" = some (.str (mk g_WORD_CHARACTERS) t)
  WORD_LENGTH : ∃ t, mg "WORD_LENGTH" = some (.int 12 t)
  LARGEST : ∃ t, mg "LARGEST" = some (.int 10000 t)
  SIGNS : mg "SIGNS" = some (.ref (He.ga K "SIGNS"))
  RESERVED : mg "RESERVED" = some (.ref (He.ga K "RESERVED"))
  OPERATIONS : mg "OPERATIONS" = some (.ref (He.ga K "OPERATIONS"))
  RELATIONS : mg "RELATIONS" = some (.ref (He.ga K "RELATIONS"))
  Reader : mg "Reader" = some (.ref (He.ga K "Reader"))
  clR : Cls K (He.ga K "Reader")
  mkR : Mk K (He.ga K "Reader") (He.ma K (He.ga K "Reader") "__init__")
/-- a def of the top, a method of Reader, its making: its promise, how it is called -/
def Has (P : Program) (w : World) (K : PySem.W.Frag) (mg : Str → Option Value) (base : Heap) (k : Nat) (x : Str) (ps : List Str) (sp : Sp) : Prop :=
  ∃ fd, FnOk P w K mg base CX0 k (He.ga K x) fd ps sp ∧ Binds K fd ps [] ∧ PySem.W.keepIn K (.ref (He.ga K x)) = true ∧ mg x = some (.ref (He.ga K x))
def HasM (P : Program) (w : World) (K : PySem.W.Frag) (mg : Str → Option Value) (base : Heap) (k : Nat) (m : Str) (ps : List Str) (sp : Sp) : Prop :=
  ∃ fd, FnOk P w K mg base CX0 k (He.ma K (He.ga K "Reader") m) fd ps sp ∧ Binds K fd ps [] ∧ Meth K (He.ga K "Reader") m (He.ma K (He.ga K "Reader") m)
def HasI (P : Program) (w : World) (K : PySem.W.Frag) (mg : Str → Option Value) (base : Heap) (k : Nat) (ps : List Str) (sp : Sp) : Prop :=
  ∃ fd, FnOk P w K mg base CX0 k (He.ma K (He.ga K "Reader") "__init__") fd ps sp ∧ Binds K fd ps []
section
variable {P : Program} {w : World} {K : PySem.W.Frag} {mg : Str → Option Value} {base : Heap} {j k : Nat} {x : Str} {ps : List Str} {sp sp' : Sp}
theorem Has.up (h : Has P w K mg base j x ps sp) (le : j ≤ k) : Has P w K mg base k x ps sp := by
  obtain ⟨fd, a, b⟩ := h
  exact ⟨fd, a.mono le, b⟩
theorem HasM.up (h : HasM P w K mg base j x ps sp) (le : j ≤ k) : HasM P w K mg base k x ps sp := by
  obtain ⟨fd, a, b⟩ := h
  exact ⟨fd, a.mono le, b⟩
theorem Has.imp (h : Has P w K mg base k x ps sp) (i : ∀ vs H Q E, sp' vs H Q E → sp vs H Q E) : Has P w K mg base k x ps sp' := by
  obtain ⟨fd, a, b⟩ := h
  exact ⟨fd, a.imp i, b⟩
end
end Cc
end
section
namespace Cc
open PySem PySem.Spec PyProof.Rows L2
theorem l0 : Str.ofString ";" = mk [59] := by decide +kernel
theorem l1 : Str.ofString "global " = mk [103, 108, 111, 98, 97, 108, 32] := by decide +kernel
theorem l2 : Str.ofString "proc " = mk [112, 114, 111, 99, 32] := by decide +kernel
theorem l3 : Str.ofString "(" = mk [40] := by decide +kernel
theorem l4 : Str.ofString ", " = mk [44, 32] := by decide +kernel
theorem l5 : Str.ofString ") {" = mk [41, 32, 123] := by decide +kernel
theorem l6 : Str.ofString "    " = mk [32, 32, 32, 32] := by decide +kernel
theorem l7 : Str.ofString "}" = mk [125] := by decide +kernel
theorem l8 : Str.ofString "" = mk [] := by decide +kernel
theorem l9 : Str.ofString "\n" = mk [10] := by decide +kernel
theorem l10 : Str.ofString "if" = mk [105, 102] := by decide +kernel
theorem l11 : Str.ofString "if " = mk [105, 102, 32] := by decide +kernel
theorem l12 : Str.ofString " {" = mk [32, 123] := by decide +kernel
theorem l13 : Str.ofString "} else {" = mk [125, 32, 101, 108, 115, 101, 32, 123] := by decide +kernel
theorem l14 : Str.ofString "while" = mk [119, 104, 105, 108, 101] := by decide +kernel
theorem l15 : Str.ofString "while " = mk [119, 104, 105, 108, 101, 32] := by decide +kernel
theorem l16 : Str.ofString "set" = mk [115, 101, 116] := by decide +kernel
theorem l17 : Str.ofString " = " = mk [32, 61, 32] := by decide +kernel
theorem l18 : Str.ofString "ask" = mk [97, 115, 107] := by decide +kernel
theorem l19 : Str.ofString "ask " = mk [97, 115, 107, 32] := by decide +kernel
theorem l20 : Str.ofString "need" = mk [110, 101, 101, 100] := by decide +kernel
theorem l21 : Str.ofString "check" = mk [99, 104, 101, 99, 107] := by decide +kernel
theorem l22 : Str.ofString " " = mk [32] := by decide +kernel
theorem l23 : Str.ofString "call" = mk [99, 97, 108, 108] := by decide +kernel
theorem l24 : Str.ofString " to " = mk [32, 116, 111, 32] := by decide +kernel
theorem l25 : Str.ofString "call " = mk [99, 97, 108, 108, 32] := by decide +kernel
theorem l26 : Str.ofString ")" = mk [41] := by decide +kernel
theorem l27 : Str.ofString "number" = mk [110, 117, 109, 98, 101, 114] := by decide +kernel
theorem l28 : Str.ofString "name" = mk [110, 97, 109, 101] := by decide +kernel
theorem l29 : Str.ofString "not" = mk [110, 111, 116] := by decide +kernel
theorem l30 : Str.ofString "not " = mk [110, 111, 116, 32] := by decide +kernel
theorem l31 : Str.ofString "compare" = mk [99, 111, 109, 112, 97, 114, 101] := by decide +kernel
theorem l32 : Str.ofString "[" = mk [91] := by decide +kernel
theorem l33 : Str.ofString "]" = mk [93] := by decide +kernel
theorem l34 : Str.ofString "error" = mk [101, 114, 114, 111, 114] := by decide +kernel
theorem l35 : Str.ofString "word" = mk [119, 111, 114, 100] := by decide +kernel
theorem l36 : Str.ofString "sign" = mk [115, 105, 103, 110] := by decide +kernel
theorem l37 : Str.ofString "0" = mk [48] := by decide +kernel
theorem l38 : Str.ofString "global" = mk [103, 108, 111, 98, 97, 108] := by decide +kernel
theorem l39 : Str.ofString "proc" = mk [112, 114, 111, 99] := by decide +kernel
theorem l40 : Str.ofString "," = mk [44] := by decide +kernel
theorem l41 : Str.ofString "{" = mk [123] := by decide +kernel
theorem l42 : Str.ofString "return" = mk [114, 101, 116, 117, 114, 110] := by decide +kernel
theorem l43 : Str.ofString "tell" = mk [116, 101, 108, 108] := by decide +kernel
theorem l44 : Str.ofString "=" = mk [61] := by decide +kernel
theorem l45 : Str.ofString "else" = mk [101, 108, 115, 101] := by decide +kernel
theorem l46 : Str.ofString "to" = mk [116, 111] := by decide +kernel
theorem l47 : Str.ofString "mod" = mk [109, 111, 100] := by decide +kernel
theorem l48 : Str.ofString "op" = mk [111, 112] := by decide +kernel
theorem l49 : Str.ofString "-" = mk [45] := by decide +kernel
theorem l50 : Str.ofString "and" = mk [97, 110, 100] := by decide +kernel
theorem l51 : Str.ofString "or" = mk [111, 114] := by decide +kernel
theorem l52 : Str.ofString "abcdefghijklmnopqrstuvwxyz" = mk [97, 98, 99, 100, 101, 102, 103, 104, 105, 106, 107, 108, 109, 110, 111, 112, 113, 114, 115, 116, 117, 118, 119, 120, 121, 122] := by decide +kernel
theorem l53 : Str.ofString "0123456789_" = mk [48, 49, 50, 51, 52, 53, 54, 55, 56, 57, 95] := by decide +kernel
theorem l54 : Str.ofString "x" = mk [120] := by decide +kernel
theorem l55 : Str.ofString "/" = mk [47] := by decide +kernel
theorem l56 : Str.ofString "*" = mk [42] := by decide +kernel
theorem l57 : Str.ofString "+" = mk [43] := by decide +kernel
theorem l58 : Str.ofString "!=" = mk [33, 61] := by decide +kernel
theorem l59 : Str.ofString "==" = mk [61, 61] := by decide +kernel
theorem l60 : Str.ofString "<=" = mk [60, 61] := by decide +kernel
theorem l61 : Str.ofString "<" = mk [60] := by decide +kernel
theorem l62 : Str.ofString "abcdefghijklmnopqrstuvwxyz0123456789" = mk [97, 98, 99, 100, 101, 102, 103, 104, 105, 106, 107, 108, 109, 110, 111, 112, 113, 114, 115, 116, 117, 118, 119, 120, 121, 122, 48, 49, 50, 51, 52, 53, 54, 55, 56, 57] := by decide +kernel
end Cc
end
section
namespace Cc
open PySem PySem.Spec PyProof.Rows L2
def t_write (K : PySem.W.Frag) (p_block_lines : Sp) : TS :=
  (tSeq (tAsg (tVar 0) (gTup K 2 (gCons (gName 1) (gCons (gName 2) gNil))))
  (tSeq (tAsg (tLc (iTup K (tVar 1)) (gName 3) tYes (tJoin [(tC (.str (mk [103, 108, 111, 98, 97, 108, 32]))), (tFmt (tVar 3)), (tC (.str (mk [59])))]) [3]) (gName 4))
  (tSeq (tFor (iTup K (tVar 2)) (gTup K 3 (gCons (gName 3) (gCons (gName 5) (gCons (gName 6) gNil)))) (tSeq (tDrop (tBM K "list" rAppend (tVar 4) (tCons (tOp rAddS (tOp rAddS (tOp rAddS (tOp rAddS (tC (.str (mk [112, 114, 111, 99, 32]))) (tVar 3)) (tC (.str (mk [40])))) (tM1 (cJoin K) (tC (.str (mk [44, 32]))) (tVar 5))) (tC (.str (mk [41, 32, 123])))) tNil)))
  (tSeq (tDrop (tBM K "list" rExtend (tVar 4) (tCons (tCall p_block_lines [] E0 (tCons (tVar 6) (tCons (tC (.str (mk [32, 32, 32, 32]))) tNil))) tNil)))
  (tDrop (tBM K "list" rAppend (tVar 4) (tCons (tC (.str (mk [125]))) tNil))))))
  (tRet (tM1 (cJoin K) (tC (.str (mk []))) (tLc (iList K (tVar 4)) (gName 7) tYes (tOp rAddS (tVar 7) (tC (.str (mk [10])))) [7]))))))
def t_block_lines (K : PySem.W.Frag) (p_statement_lines : Sp) : TS :=
  (tSeq (tAsg (tLst tNil) (gName 2))
  (tSeq (tFor (iTup K (tVar 0)) (gName 3) (tDrop (tBM K "list" rExtend (tVar 2) (tCons (tCall p_statement_lines [] E0 (tCons (tVar 3) (tCons (tVar 1) tNil))) tNil))))
  (tRet (tVar 2))))
def t_statement_lines (K : PySem.W.Frag) (p_condition_text p_block_lines p_simple_text : Sp) : TS :=
  (tSeq (tAsg (tOp (rIxT K) (tVar 0) (tC (.int 0))) (gName 2))
  (tSeq (tAsg (tOp rAddS (tVar 1) (tC (.str (mk [32, 32, 32, 32])))) (gName 3))
  (tSeq (tIfS (tTest (tOp rEq (tVar 2) (tC (.str (mk [105, 102]))))) (tSeq (tAsg (tLst (tCons (tOp rAddS (tOp rAddS (tOp rAddS (tVar 1) (tC (.str (mk [105, 102, 32])))) (tCall p_condition_text [] E0 (tCons (tOp (rIxT K) (tVar 0) (tC (.int 1))) tNil))) (tC (.str (mk [32, 123])))) tNil)) (gName 4))
  (tSeq (tDrop (tBM K "list" rExtend (tVar 4) (tCons (tCall p_block_lines [] E0 (tCons (tOp (rIxT K) (tVar 0) (tC (.int 2))) (tCons (tVar 3) tNil))) tNil)))
  (tSeq (tIfS (tTest (tOp (rNeD K) (tOp (rIxT K) (tVar 0) (tC (.int 3))) (tTup tNil))) (tSeq (tDrop (tBM K "list" rAppend (tVar 4) (tCons (tOp rAddS (tVar 1) (tC (.str (mk [125, 32, 101, 108, 115, 101, 32, 123])))) tNil)))
  (tDrop (tBM K "list" rExtend (tVar 4) (tCons (tCall p_block_lines [] E0 (tCons (tOp (rIxT K) (tVar 0) (tC (.int 3))) (tCons (tVar 3) tNil))) tNil)))) tNext)
  (tRet (tOp rCat (tVar 4) (tLst (tCons (tOp rAddS (tVar 1) (tC (.str (mk [125])))) tNil))))))) tNext)
  (tSeq (tIfS (tTest (tOp rEq (tVar 2) (tC (.str (mk [119, 104, 105, 108, 101]))))) (tSeq (tAsg (tLst (tCons (tOp rAddS (tOp rAddS (tOp rAddS (tVar 1) (tC (.str (mk [119, 104, 105, 108, 101, 32])))) (tCall p_condition_text [] E0 (tCons (tOp (rIxT K) (tVar 0) (tC (.int 1))) tNil))) (tC (.str (mk [32, 123])))) tNil)) (gName 4))
  (tSeq (tDrop (tBM K "list" rExtend (tVar 4) (tCons (tCall p_block_lines [] E0 (tCons (tOp (rIxT K) (tVar 0) (tC (.int 2))) (tCons (tVar 3) tNil))) tNil)))
  (tRet (tOp rCat (tVar 4) (tLst (tCons (tOp rAddS (tVar 1) (tC (.str (mk [125])))) tNil)))))) tNext)
  (tRet (tLst (tCons (tOp rAddS (tOp rAddS (tVar 1) (tCall p_simple_text [] E0 (tCons (tVar 0) tNil))) (tC (.str (mk [59])))) tNil)))))))
def t_simple_text (K : PySem.W.Frag) (p_expression_text p_condition_text : Sp) : TS :=
  (tSeq (tAsg (tOp (rIxT K) (tVar 0) (tC (.int 0))) (gName 1))
  (tSeq (tIfS (tTest (tOp rEq (tVar 1) (tC (.str (mk [115, 101, 116]))))) (tRet (tOp rAddS (tOp rAddS (tOp (rIxT K) (tVar 0) (tC (.int 1))) (tC (.str (mk [32, 61, 32])))) (tCall p_expression_text [] E0 (tCons (tOp (rIxT K) (tVar 0) (tC (.int 2))) tNil)))) tNext)
  (tSeq (tIfS (tTest (tOp rEq (tVar 1) (tC (.str (mk [97, 115, 107]))))) (tRet (tOp rAddS (tC (.str (mk [97, 115, 107, 32]))) (tOp (rIxT K) (tVar 0) (tC (.int 1))))) tNext)
  (tSeq (tIfS (tTest (tOp (rIn K false) (tVar 1) (tTup (tCons (tC (.str (mk [99, 104, 101, 99, 107]))) (tCons (tC (.str (mk [110, 101, 101, 100]))) tNil))))) (tRet (tOp rAddS (tOp rAddS (tVar 1) (tC (.str (mk [32])))) (tCall p_condition_text [] E0 (tCons (tOp (rIxT K) (tVar 0) (tC (.int 1))) tNil)))) tNext)
  (tSeq (tIfS (tTest (tOp rEq (tVar 1) (tC (.str (mk [99, 97, 108, 108]))))) (tSeq (tAsg (tM1 (cJoin K) (tC (.str (mk [44, 32]))) (tLc (iTup K (tOp (rIxT K) (tVar 0) (tC (.int 2)))) (gName 4) tYes (tCall p_expression_text [] E0 (tCons (tVar 4) tNil)) [4])) (gName 2))
  (tSeq (tAsg (tIf (tTest (tOp rIsNone (tOp (rIxT K) (tVar 0) (tC (.int 3))) (tC .non))) (tC (.str (mk []))) (tOp rAddS (tC (.str (mk [32, 116, 111, 32]))) (tOp (rIxT K) (tVar 0) (tC (.int 3))))) (gName 3))
  (tRet (tOp rAddS (tOp rAddS (tOp rAddS (tOp rAddS (tOp rAddS (tC (.str (mk [99, 97, 108, 108, 32]))) (tOp (rIxT K) (tVar 0) (tC (.int 1)))) (tC (.str (mk [40])))) (tVar 2)) (tC (.str (mk [41])))) (tVar 3))))) tNext)
  (tRet (tOp rAddS (tOp rAddS (tVar 1) (tC (.str (mk [32])))) (tCall p_expression_text [] E0 (tCons (tOp (rIxT K) (tVar 0) (tC (.int 1))) tNil)))))))))
def t_expression_text (K : PySem.W.Frag) (p_expression_text : Sp) : TS :=
  (tSeq (tIfS (tTest (tOp rEq (tOp (rIxT K) (tVar 0) (tC (.int 0))) (tC (.str (mk [110, 117, 109, 98, 101, 114]))))) (tRet (tCB cStrI (tCons (tOp (rIxT K) (tVar 0) (tC (.int 1))) tNil))) tNext)
  (tSeq (tIfS (tTest (tOp rEq (tOp (rIxT K) (tVar 0) (tC (.int 0))) (tC (.str (mk [110, 97, 109, 101]))))) (tRet (tOp (rIxT K) (tVar 0) (tC (.int 1)))) tNext)
  (tSeq (tAsg (tCall p_expression_text [] E0 (tCons (tOp (rIxT K) (tVar 0) (tC (.int 2))) tNil)) (gName 1))
  (tRet (tOp rAddS (tOp rAddS (tOp rAddS (tOp rAddS (tOp rAddS (tOp rAddS (tC (.str (mk [40]))) (tVar 1)) (tC (.str (mk [32])))) (tOp (rIxT K) (tVar 0) (tC (.int 1)))) (tC (.str (mk [32])))) (tCall p_expression_text [] E0 (tCons (tOp (rIxT K) (tVar 0) (tC (.int 3))) tNil))) (tC (.str (mk [41]))))))))
def t_condition_text (K : PySem.W.Frag) (p_condition_text p_expression_text : Sp) : TS :=
  (tSeq (tAsg (tOp (rIxT K) (tVar 0) (tC (.int 0))) (gName 1))
  (tSeq (tIfS (tTest (tOp rEq (tVar 1) (tC (.str (mk [110, 111, 116]))))) (tRet (tOp rAddS (tC (.str (mk [110, 111, 116, 32]))) (tCall p_condition_text [] E0 (tCons (tOp (rIxT K) (tVar 0) (tC (.int 1))) tNil)))) tNext)
  (tSeq (tIfS (tTest (tOp rEq (tVar 1) (tC (.str (mk [99, 111, 109, 112, 97, 114, 101]))))) (tSeq (tAsg (tCall p_expression_text [] E0 (tCons (tOp (rIxT K) (tVar 0) (tC (.int 2))) tNil)) (gName 2))
  (tRet (tOp rAddS (tOp rAddS (tOp rAddS (tOp rAddS (tVar 2) (tC (.str (mk [32])))) (tOp (rIxT K) (tVar 0) (tC (.int 1)))) (tC (.str (mk [32])))) (tCall p_expression_text [] E0 (tCons (tOp (rIxT K) (tVar 0) (tC (.int 3))) tNil))))) tNext)
  (tRet (tOp rAddS (tOp rAddS (tOp rAddS (tOp rAddS (tOp rAddS (tOp rAddS (tC (.str (mk [91]))) (tCall p_condition_text [] E0 (tCons (tOp (rIxT K) (tVar 0) (tC (.int 1))) tNil))) (tC (.str (mk [32])))) (tVar 1)) (tC (.str (mk [32])))) (tCall p_condition_text [] E0 (tCons (tOp (rIxT K) (tVar 0) (tC (.int 2))) tNil))) (tC (.str (mk [93]))))))))
def t_tokens (K : PySem.W.Frag) (p_token_at : Sp) : TS :=
  (tSeq (tAsg (tLst tNil) (gName 1))
  (tSeq (tAsg (tC (.int 0)) (gName 2))
  (tSeq (tAsg (tC (.int 1)) (gName 3))
  (tSeq (tAsg (tC (.int 0)) (gName 4))
  (tSeq (tWhile (tTest (tOp rLtI (tVar 2) (tCB cLenS (tCons (tVar 0) tNil)))) (tSeq (tAsg (tOp rIxS (tVar 0) (tVar 2)) (gName 5))
  (tIfS (tTest (tOp rEq (tVar 5) (tC (.str (mk [10]))))) (tSeq (tAsg (tOp rAddI (tVar 3) (tC (.int 1))) (gName 3))
  (tSeq (tAsg (tOp rAddI (tVar 2) (tC (.int 1))) (gName 4))
  (tAsg (tOp rAddI (tVar 2) (tC (.int 1))) (gName 2)))) (tIfS (tTest (tOp rEq (tVar 5) (tC (.str (mk [32]))))) (tAsg (tOp rAddI (tVar 2) (tC (.int 1))) (gName 2)) (tSeq (tAsg (tCall p_token_at [] E0 (tCons (tVar 0) (tCons (tVar 2) tNil))) (gTup K 3 (gCons (gName 6) (gCons (gName 7) (gCons (gName 8) gNil)))))
  (tSeq (tDrop (tBM K "list" rAppend (tVar 1) (tCons (tTup (tCons (tVar 6) (tCons (tVar 7) (tCons (tVar 3) (tCons (tOp rAddI (tOp rSubI (tVar 2) (tVar 4)) (tC (.int 1))) tNil))))) tNil)))
  (tSeq (tIfS (tTest (tOp rEq (tVar 6) (tC (.str (mk [101, 114, 114, 111, 114]))))) (tRet (tCB (cTup K) (tCons (tVar 1) tNil))) tNext)
  (tAsg (tVar 8) (gName 2)))))))))
  (tRet (tCB (cTup K) (tCons (tVar 1) tNil))))))))
def t_token_at (K : PySem.W.Frag) (p_end_of p_number_at : Sp) : TS :=
  (tSeq (tAsg (tOp rIxS (tVar 0) (tVar 1)) (gName 2))
  (tSeq (tIfS (tTest (tOp rInSign (tVar 2) (tC (.str (mk g_LETTERS))))) (tSeq (tAsg (tCall p_end_of [] E0 (tCons (tVar 0) (tCons (tVar 1) (tCons (tC (.str (mk g_WORD_CHARACTERS))) tNil)))) (gName 3))
  (tSeq (tIfS (tTest (tOp rGtI (tOp rSubI (tVar 3) (tVar 1)) (tC (.int 12)))) (tRet (tTup (tCons (tC (.str (mk [101, 114, 114, 111, 114]))) (tCons (tC (.str (mk []))) (tCons (tVar 1) tNil))))) tNext)
  (tRet (tTup (tCons (tC (.str (mk [119, 111, 114, 100]))) (tCons (tSl rSlS (tVar 0) (tPart (tVar 1)) (tPart (tVar 3))) (tCons (tVar 3) tNil))))))) tNext)
  (tSeq (tIfS (tTest (tOp rInSign (tVar 2) (tC (.str (mk g_DIGITS))))) (tRet (tCall p_number_at [] E0 (tCons (tVar 0) (tCons (tVar 1) tNil)))) tNext)
  (tSeq (tFor (iTup K (tC (.ref (He.ga K "SIGNS")))) (gName 4) (tIfS (tTest (tOp rEq (tSl rSlS (tVar 0) (tPart (tVar 1)) (tPart (tOp rAddI (tVar 1) (tCB cLenS (tCons (tVar 4) tNil))))) (tVar 4))) (tRet (tTup (tCons (tC (.str (mk [115, 105, 103, 110]))) (tCons (tVar 4) (tCons (tOp rAddI (tVar 1) (tCB cLenS (tCons (tVar 4) tNil))) tNil))))) tNext))
  (tRet (tTup (tCons (tC (.str (mk [101, 114, 114, 111, 114]))) (tCons (tC (.str (mk []))) (tCons (tVar 1) tNil)))))))))
def t_end_of (K : PySem.W.Frag) : TS :=
  (tSeq (tAsg (tVar 1) (gName 3))
  (tSeq (tWhile (tAnd (tTest (tOp rLtI (tVar 3) (tCB cLenS (tCons (tVar 0) tNil)))) (tTest (tOp rInSign (tOp rIxS (tVar 0) (tVar 3)) (tVar 2)))) (tAsg (tOp rAddI (tVar 3) (tC (.int 1))) (gName 3)))
  (tRet (tVar 3))))
def t_number_at (K : PySem.W.Frag) (p_end_of : Sp) : TS :=
  (tSeq (tAsg (tCall p_end_of [] E0 (tCons (tVar 0) (tCons (tVar 1) (tCons (tC (.str (mk g_DIGITS))) tNil)))) (gName 2))
  (tSeq (tAsg (tSl rSlS (tVar 0) (tPart (tVar 1)) (tPart (tVar 2))) (gName 3))
  (tSeq (tIfS (tOr (tTest (tOp rGtI (tCB cLenS (tCons (tVar 3) tNil)) (tC (.int 5)))) (tAnd (tTest (tOp rGtI (tCB cLenS (tCons (tVar 3) tNil)) (tC (.int 1)))) (tTest (tOp rEq (tOp rIxS (tVar 3) (tC (.int 0))) (tC (.str (mk [48]))))))) (tRet (tTup (tCons (tC (.str (mk [101, 114, 114, 111, 114]))) (tCons (tC (.str (mk []))) (tCons (tVar 1) tNil))))) tNext)
  (tSeq (tIfS (tTest (tOp rGtI (tCB cIntS (tCons (tVar 3) tNil)) (tC (.int 10000)))) (tRet (tTup (tCons (tC (.str (mk [101, 114, 114, 111, 114]))) (tCons (tC (.str (mk []))) (tCons (tVar 1) tNil))))) tNext)
  (tRet (tTup (tCons (tC (.str (mk [110, 117, 109, 98, 101, 114]))) (tCons (tCB cIntS (tCons (tVar 3) tNil)) (tCons (tVar 2) tNil)))))))))
def t_end_place (K : PySem.W.Frag) : TS :=
  (tSeq (tAsg (tM1 cSplit (tVar 0) (tC (.str (mk [10])))) (gName 1))
  (tRet (tTup (tCons (tCB (cLen K) (tCons (tVar 1) tNil)) (tCons (tOp rAddI (tCB cLenS (tCons (tOp (rIxL K) (tVar 1) (tUn rNegI (tC (.int 1)))) tNil)) (tC (.int 1))) tNil)))))
def t_Reader_init (K : PySem.W.Frag) (p_tokens p_end_place : Sp) : TS :=
  (tSeq (sFld K (tVar 0) (tCall p_tokens [] E0 (tCons (tVar 1) tNil)) "found")
  (tSeq (sFld K (tVar 0) (tCall p_end_place [] E0 (tCons (tVar 1) tNil)) "end")
  (sFld K (tVar 0) (tC (.int 0)) "at")))
def t_Reader_kind (K : PySem.W.Frag) : TS :=
  (tRet (tIf (tTest (tOp rLtI (tFld K (tVar 0) "at") (tCB (cLen K) (tCons (tFld K (tVar 0) "found") tNil)))) (tOp (rIxT K) (tOp (rIxT K) (tFld K (tVar 0) "found") (tFld K (tVar 0) "at")) (tC (.int 0))) (tC (.str (mk [])))))
def t_Reader_value (K : PySem.W.Frag) : TS :=
  (tRet (tIf (tTest (tOp rLtI (tFld K (tVar 0) "at") (tCB (cLen K) (tCons (tFld K (tVar 0) "found") tNil)))) (tOp (rIxT K) (tOp (rIxT K) (tFld K (tVar 0) "found") (tFld K (tVar 0) "at")) (tC (.int 1))) (tC (.str (mk [])))))
def t_Reader_is_sign (K : PySem.W.Frag) (p_kind p_value : Sp) : TS :=
  (tRet (tAndV (tOp rEq (tMeth (He.ga K "Reader") "kind" p_kind [] E0 (tVar 0) tNil) (tC (.str (mk [115, 105, 103, 110])))) (tOp rEq (tMeth (He.ga K "Reader") "value" p_value [] E0 (tVar 0) tNil) (tVar 1))))
def t_Reader_is_word (K : PySem.W.Frag) (p_kind p_value : Sp) : TS :=
  (tRet (tAndV (tOp rEq (tMeth (He.ga K "Reader") "kind" p_kind [] E0 (tVar 0) tNil) (tC (.str (mk [119, 111, 114, 100])))) (tOp rEq (tMeth (He.ga K "Reader") "value" p_value [] E0 (tVar 0) tNil) (tVar 1))))
def t_Reader_step (K : PySem.W.Frag) : TS :=
  (sFld K (tVar 0) (tOp rAddI (tFld K (tVar 0) "at") (tC (.int 1))) "at")
def t_Reader_need_sign (K : PySem.W.Frag) (p_is_sign p_fail p_step : Sp) : TS :=
  (tSeq (tIfS (tNot (tB (tMeth (He.ga K "Reader") "is_sign" p_is_sign [] E0 (tVar 0) (tCons (tVar 1) tNil)))) (tDrop (tMeth (He.ga K "Reader") "fail" p_fail [] E0 (tVar 0) tNil)) tNext)
  (tDrop (tMeth (He.ga K "Reader") "step" p_step [] E0 (tVar 0) tNil)))
def t_Reader_need_word (K : PySem.W.Frag) (p_is_word p_fail p_step : Sp) : TS :=
  (tSeq (tIfS (tNot (tB (tMeth (He.ga K "Reader") "is_word" p_is_word [] E0 (tVar 0) (tCons (tVar 1) tNil)))) (tDrop (tMeth (He.ga K "Reader") "fail" p_fail [] E0 (tVar 0) tNil)) tNext)
  (tDrop (tMeth (He.ga K "Reader") "step" p_step [] E0 (tVar 0) tNil)))
def t_Reader_need_name (K : PySem.W.Frag) (p_kind p_value p_fail p_step : Sp) : TS :=
  (tSeq (tIfS (tOr (tTest (tOp rNe (tMeth (He.ga K "Reader") "kind" p_kind [] E0 (tVar 0) tNil) (tC (.str (mk [119, 111, 114, 100]))))) (tTest (tOp (rIn K false) (tMeth (He.ga K "Reader") "value" p_value [] E0 (tVar 0) tNil) (tC (.ref (He.ga K "RESERVED")))))) (tDrop (tMeth (He.ga K "Reader") "fail" p_fail [] E0 (tVar 0) tNil)) tNext)
  (tSeq (tAsg (tMeth (He.ga K "Reader") "value" p_value [] E0 (tVar 0) tNil) (gName 1))
  (tSeq (tDrop (tMeth (He.ga K "Reader") "step" p_step [] E0 (tVar 0) tNil))
  (tRet (tVar 1)))))
def t_parse (K : PySem.W.Frag) (p_read_names p_read_block p_init p_is_word p_step p_need_name p_need_sign p_kind p_need_word : Sp) : TS :=
  (tSeq (tAsg (tMake (He.ga K "Reader") p_init [] E0 (tCons (tVar 0) tNil)) (gName 1))
  (tSeq (tAsg (tLst tNil) (gName 2))
  (tSeq (tWhile (tB (tMeth (He.ga K "Reader") "is_word" p_is_word [] E0 (tVar 1) (tCons (tC (.str (mk [103, 108, 111, 98, 97, 108]))) tNil))) (tSeq (tDrop (tMeth (He.ga K "Reader") "step" p_step [] E0 (tVar 1) tNil))
  (tSeq (tDrop (tBM K "list" rAppend (tVar 2) (tCons (tMeth (He.ga K "Reader") "need_name" p_need_name [] E0 (tVar 1) tNil) tNil)))
  (tDrop (tMeth (He.ga K "Reader") "need_sign" p_need_sign [] E0 (tVar 1) (tCons (tC (.str (mk [59]))) tNil))))))
  (tSeq (tAsg (tLst tNil) (gName 3))
  (tSeq (tWhile (tTest (tOp rNe (tMeth (He.ga K "Reader") "kind" p_kind [] E0 (tVar 1) tNil) (tC (.str (mk []))))) (tSeq (tDrop (tMeth (He.ga K "Reader") "need_word" p_need_word [] E0 (tVar 1) (tCons (tC (.str (mk [112, 114, 111, 99]))) tNil)))
  (tSeq (tAsg (tMeth (He.ga K "Reader") "need_name" p_need_name [] E0 (tVar 1) tNil) (gName 4))
  (tSeq (tAsg (tCall p_read_names [] E0 (tCons (tVar 1) tNil)) (gName 5))
  (tDrop (tBM K "list" rAppend (tVar 3) (tCons (tTup (tCons (tVar 4) (tCons (tVar 5) (tCons (tCall p_read_block [] E0 (tCons (tVar 1) tNil)) tNil)))) tNil)))))))
  (tRet (tTup (tCons (tCB (cTup K) (tCons (tVar 2) tNil)) (tCons (tCB (cTup K) (tCons (tVar 3) tNil)) tNil)))))))))
def t_read_names (K : PySem.W.Frag) (p_need_sign p_is_sign p_need_name p_step : Sp) : TS :=
  (tSeq (tDrop (tMeth (He.ga K "Reader") "need_sign" p_need_sign [] E0 (tVar 0) (tCons (tC (.str (mk [40]))) tNil)))
  (tSeq (tAsg (tLst tNil) (gName 1))
  (tSeq (tIfS (tNot (tB (tMeth (He.ga K "Reader") "is_sign" p_is_sign [] E0 (tVar 0) (tCons (tC (.str (mk [41]))) tNil)))) (tSeq (tDrop (tBM K "list" rAppend (tVar 1) (tCons (tMeth (He.ga K "Reader") "need_name" p_need_name [] E0 (tVar 0) tNil) tNil)))
  (tWhile (tB (tMeth (He.ga K "Reader") "is_sign" p_is_sign [] E0 (tVar 0) (tCons (tC (.str (mk [44]))) tNil))) (tSeq (tDrop (tMeth (He.ga K "Reader") "step" p_step [] E0 (tVar 0) tNil))
  (tDrop (tBM K "list" rAppend (tVar 1) (tCons (tMeth (He.ga K "Reader") "need_name" p_need_name [] E0 (tVar 0) tNil) tNil)))))) tNext)
  (tSeq (tDrop (tMeth (He.ga K "Reader") "need_sign" p_need_sign [] E0 (tVar 0) (tCons (tC (.str (mk [41]))) tNil)))
  (tRet (tCB (cTup K) (tCons (tVar 1) tNil)))))))
def t_read_block (K : PySem.W.Frag) (p_read_statement p_need_sign p_is_sign p_step : Sp) : TS :=
  (tSeq (tDrop (tMeth (He.ga K "Reader") "need_sign" p_need_sign [] E0 (tVar 0) (tCons (tC (.str (mk [123]))) tNil)))
  (tSeq (tAsg (tLst tNil) (gName 1))
  (tSeq (tWhile (tNot (tB (tMeth (He.ga K "Reader") "is_sign" p_is_sign [] E0 (tVar 0) (tCons (tC (.str (mk [125]))) tNil)))) (tDrop (tBM K "list" rAppend (tVar 1) (tCons (tCall p_read_statement [] E0 (tCons (tVar 0) tNil)) tNil))))
  (tSeq (tDrop (tMeth (He.ga K "Reader") "step" p_step [] E0 (tVar 0) tNil))
  (tRet (tCB (cTup K) (tCons (tVar 1) tNil)))))))
def t_read_statement (K : PySem.W.Frag) (p_read_if p_read_condition p_read_block p_read_call p_read_expression p_kind p_value p_step p_need_name p_need_sign : Sp) : TS :=
  (tSeq (tAsg (tIf (tTest (tOp rEq (tMeth (He.ga K "Reader") "kind" p_kind [] E0 (tVar 0) tNil) (tC (.str (mk [119, 111, 114, 100]))))) (tMeth (He.ga K "Reader") "value" p_value [] E0 (tVar 0) tNil) (tC (.str (mk [])))) (gName 1))
  (tSeq (tIfS (tTest (tOp rEq (tVar 1) (tC (.str (mk [105, 102]))))) (tRet (tCall p_read_if [] E0 (tCons (tVar 0) tNil))) tNext)
  (tSeq (tIfS (tTest (tOp rEq (tVar 1) (tC (.str (mk [119, 104, 105, 108, 101]))))) (tSeq (tDrop (tMeth (He.ga K "Reader") "step" p_step [] E0 (tVar 0) tNil))
  (tSeq (tAsg (tCall p_read_condition [] E0 (tCons (tVar 0) tNil)) (gName 2))
  (tRet (tTup (tCons (tC (.str (mk [119, 104, 105, 108, 101]))) (tCons (tVar 2) (tCons (tCall p_read_block [] E0 (tCons (tVar 0) tNil)) tNil))))))) tNext)
  (tSeq (tIfS (tTest (tOp rEq (tVar 1) (tC (.str (mk [99, 97, 108, 108]))))) (tRet (tCall p_read_call [] E0 (tCons (tVar 0) tNil))) tNext)
  (tSeq (tIfS (tTest (tOp (rIn K false) (tVar 1) (tTup (tCons (tC (.str (mk [97, 115, 107]))) (tCons (tC (.str (mk [116, 101, 108, 108]))) (tCons (tC (.str (mk [99, 104, 101, 99, 107]))) (tCons (tC (.str (mk [110, 101, 101, 100]))) (tCons (tC (.str (mk [114, 101, 116, 117, 114, 110]))) tNil)))))))) (tSeq (tDrop (tMeth (He.ga K "Reader") "step" p_step [] E0 (tVar 0) tNil))
  (tSeq (tIfS (tTest (tOp rEq (tVar 1) (tC (.str (mk [97, 115, 107]))))) (tAsg (tMeth (He.ga K "Reader") "need_name" p_need_name [] E0 (tVar 0) tNil) (gName 3)) (tIfS (tTest (tOp (rIn K false) (tVar 1) (tTup (tCons (tC (.str (mk [99, 104, 101, 99, 107]))) (tCons (tC (.str (mk [110, 101, 101, 100]))) tNil))))) (tAsg (tCall p_read_condition [] E0 (tCons (tVar 0) tNil)) (gName 3)) (tAsg (tCall p_read_expression [] E0 (tCons (tVar 0) tNil)) (gName 3))))
  (tSeq (tDrop (tMeth (He.ga K "Reader") "need_sign" p_need_sign [] E0 (tVar 0) (tCons (tC (.str (mk [59]))) tNil)))
  (tRet (tTup (tCons (tVar 1) (tCons (tVar 3) tNil))))))) tNext)
  (tSeq (tAsg (tMeth (He.ga K "Reader") "need_name" p_need_name [] E0 (tVar 0) tNil) (gName 4))
  (tSeq (tDrop (tMeth (He.ga K "Reader") "need_sign" p_need_sign [] E0 (tVar 0) (tCons (tC (.str (mk [61]))) tNil)))
  (tSeq (tAsg (tCall p_read_expression [] E0 (tCons (tVar 0) tNil)) (gName 3))
  (tSeq (tDrop (tMeth (He.ga K "Reader") "need_sign" p_need_sign [] E0 (tVar 0) (tCons (tC (.str (mk [59]))) tNil)))
  (tRet (tTup (tCons (tC (.str (mk [115, 101, 116]))) (tCons (tVar 4) (tCons (tVar 3) tNil))))))))))))))
def t_read_if (K : PySem.W.Frag) (p_read_condition p_read_block p_step p_is_word : Sp) : TS :=
  (tSeq (tDrop (tMeth (He.ga K "Reader") "step" p_step [] E0 (tVar 0) tNil))
  (tSeq (tAsg (tCall p_read_condition [] E0 (tCons (tVar 0) tNil)) (gName 1))
  (tSeq (tAsg (tCall p_read_block [] E0 (tCons (tVar 0) tNil)) (gName 2))
  (tSeq (tAsg (tTup tNil) (gName 3))
  (tSeq (tIfS (tB (tMeth (He.ga K "Reader") "is_word" p_is_word [] E0 (tVar 0) (tCons (tC (.str (mk [101, 108, 115, 101]))) tNil))) (tSeq (tDrop (tMeth (He.ga K "Reader") "step" p_step [] E0 (tVar 0) tNil))
  (tAsg (tCall p_read_block [] E0 (tCons (tVar 0) tNil)) (gName 3))) tNext)
  (tRet (tTup (tCons (tC (.str (mk [105, 102]))) (tCons (tVar 1) (tCons (tVar 2) (tCons (tVar 3) tNil)))))))))))
def t_read_call (K : PySem.W.Frag) (p_read_expression p_step p_need_name p_need_sign p_is_sign p_is_word : Sp) : TS :=
  (tSeq (tDrop (tMeth (He.ga K "Reader") "step" p_step [] E0 (tVar 0) tNil))
  (tSeq (tAsg (tMeth (He.ga K "Reader") "need_name" p_need_name [] E0 (tVar 0) tNil) (gName 1))
  (tSeq (tDrop (tMeth (He.ga K "Reader") "need_sign" p_need_sign [] E0 (tVar 0) (tCons (tC (.str (mk [40]))) tNil)))
  (tSeq (tAsg (tLst tNil) (gName 2))
  (tSeq (tIfS (tNot (tB (tMeth (He.ga K "Reader") "is_sign" p_is_sign [] E0 (tVar 0) (tCons (tC (.str (mk [41]))) tNil)))) (tSeq (tDrop (tBM K "list" rAppend (tVar 2) (tCons (tCall p_read_expression [] E0 (tCons (tVar 0) tNil)) tNil)))
  (tWhile (tB (tMeth (He.ga K "Reader") "is_sign" p_is_sign [] E0 (tVar 0) (tCons (tC (.str (mk [44]))) tNil))) (tSeq (tDrop (tMeth (He.ga K "Reader") "step" p_step [] E0 (tVar 0) tNil))
  (tDrop (tBM K "list" rAppend (tVar 2) (tCons (tCall p_read_expression [] E0 (tCons (tVar 0) tNil)) tNil)))))) tNext)
  (tSeq (tDrop (tMeth (He.ga K "Reader") "need_sign" p_need_sign [] E0 (tVar 0) (tCons (tC (.str (mk [41]))) tNil)))
  (tSeq (tAsg (tC .non) (gName 3))
  (tSeq (tIfS (tB (tMeth (He.ga K "Reader") "is_word" p_is_word [] E0 (tVar 0) (tCons (tC (.str (mk [116, 111]))) tNil))) (tSeq (tDrop (tMeth (He.ga K "Reader") "step" p_step [] E0 (tVar 0) tNil))
  (tAsg (tMeth (He.ga K "Reader") "need_name" p_need_name [] E0 (tVar 0) tNil) (gName 3))) tNext)
  (tSeq (tDrop (tMeth (He.ga K "Reader") "need_sign" p_need_sign [] E0 (tVar 0) (tCons (tC (.str (mk [59]))) tNil)))
  (tRet (tTup (tCons (tC (.str (mk [99, 97, 108, 108]))) (tCons (tVar 1) (tCons (tCB (cTup K) (tCons (tVar 2) tNil)) (tCons (tVar 3) tNil)))))))))))))))
def t_read_expression (K : PySem.W.Frag) (p_read_expression p_read_number p_is_sign p_step p_kind p_value p_need_word p_need_sign p_need_name : Sp) : TS :=
  (tSeq (tIfS (tB (tMeth (He.ga K "Reader") "is_sign" p_is_sign [] E0 (tVar 0) (tCons (tC (.str (mk [40]))) tNil))) (tSeq (tDrop (tMeth (He.ga K "Reader") "step" p_step [] E0 (tVar 0) tNil))
  (tSeq (tAsg (tCall p_read_expression [] E0 (tCons (tVar 0) tNil)) (gName 1))
  (tSeq (tIfS (tAnd (tTest (tOp rEq (tMeth (He.ga K "Reader") "kind" p_kind [] E0 (tVar 0) tNil) (tC (.str (mk [115, 105, 103, 110]))))) (tTest (tOp (rIn K false) (tMeth (He.ga K "Reader") "value" p_value [] E0 (tVar 0) tNil) (tC (.ref (He.ga K "OPERATIONS")))))) (tSeq (tAsg (tMeth (He.ga K "Reader") "value" p_value [] E0 (tVar 0) tNil) (gName 2))
  (tDrop (tMeth (He.ga K "Reader") "step" p_step [] E0 (tVar 0) tNil))) (tSeq (tDrop (tMeth (He.ga K "Reader") "need_word" p_need_word [] E0 (tVar 0) (tCons (tC (.str (mk [109, 111, 100]))) tNil)))
  (tAsg (tC (.str (mk [109, 111, 100]))) (gName 2))))
  (tSeq (tAsg (tCall p_read_expression [] E0 (tCons (tVar 0) tNil)) (gName 3))
  (tSeq (tDrop (tMeth (He.ga K "Reader") "need_sign" p_need_sign [] E0 (tVar 0) (tCons (tC (.str (mk [41]))) tNil)))
  (tRet (tTup (tCons (tC (.str (mk [111, 112]))) (tCons (tVar 2) (tCons (tVar 1) (tCons (tVar 3) tNil))))))))))) tNext)
  (tSeq (tIfS (tB (tMeth (He.ga K "Reader") "is_sign" p_is_sign [] E0 (tVar 0) (tCons (tC (.str (mk [45]))) tNil))) (tSeq (tDrop (tMeth (He.ga K "Reader") "step" p_step [] E0 (tVar 0) tNil))
  (tRet (tTup (tCons (tC (.str (mk [110, 117, 109, 98, 101, 114]))) (tCons (tUn rNegI (tCall p_read_number [] E0 (tCons (tVar 0) tNil))) tNil))))) tNext)
  (tSeq (tIfS (tTest (tOp rEq (tMeth (He.ga K "Reader") "kind" p_kind [] E0 (tVar 0) tNil) (tC (.str (mk [110, 117, 109, 98, 101, 114]))))) (tRet (tTup (tCons (tC (.str (mk [110, 117, 109, 98, 101, 114]))) (tCons (tCall p_read_number [] E0 (tCons (tVar 0) tNil)) tNil)))) tNext)
  (tRet (tTup (tCons (tC (.str (mk [110, 97, 109, 101]))) (tCons (tMeth (He.ga K "Reader") "need_name" p_need_name [] E0 (tVar 0) tNil) tNil)))))))
def t_read_number (K : PySem.W.Frag) (p_kind p_fail p_value p_step : Sp) : TS :=
  (tSeq (tIfS (tTest (tOp rNe (tMeth (He.ga K "Reader") "kind" p_kind [] E0 (tVar 0) tNil) (tC (.str (mk [110, 117, 109, 98, 101, 114]))))) (tDrop (tMeth (He.ga K "Reader") "fail" p_fail [] E0 (tVar 0) tNil)) tNext)
  (tSeq (tAsg (tMeth (He.ga K "Reader") "value" p_value [] E0 (tVar 0) tNil) (gName 1))
  (tSeq (tDrop (tMeth (He.ga K "Reader") "step" p_step [] E0 (tVar 0) tNil))
  (tRet (tVar 1)))))
def t_read_condition (K : PySem.W.Frag) (p_read_condition p_read_expression p_is_word p_step p_is_sign p_fail p_value p_need_sign p_kind : Sp) : TS :=
  (tSeq (tIfS (tB (tMeth (He.ga K "Reader") "is_word" p_is_word [] E0 (tVar 0) (tCons (tC (.str (mk [110, 111, 116]))) tNil))) (tSeq (tDrop (tMeth (He.ga K "Reader") "step" p_step [] E0 (tVar 0) tNil))
  (tRet (tTup (tCons (tC (.str (mk [110, 111, 116]))) (tCons (tCall p_read_condition [] E0 (tCons (tVar 0) tNil)) tNil))))) tNext)
  (tSeq (tIfS (tB (tMeth (He.ga K "Reader") "is_sign" p_is_sign [] E0 (tVar 0) (tCons (tC (.str (mk [91]))) tNil))) (tSeq (tDrop (tMeth (He.ga K "Reader") "step" p_step [] E0 (tVar 0) tNil))
  (tSeq (tAsg (tCall p_read_condition [] E0 (tCons (tVar 0) tNil)) (gName 1))
  (tSeq (tIfS (tAnd (tNot (tB (tMeth (He.ga K "Reader") "is_word" p_is_word [] E0 (tVar 0) (tCons (tC (.str (mk [97, 110, 100]))) tNil)))) (tNot (tB (tMeth (He.ga K "Reader") "is_word" p_is_word [] E0 (tVar 0) (tCons (tC (.str (mk [111, 114]))) tNil))))) (tDrop (tMeth (He.ga K "Reader") "fail" p_fail [] E0 (tVar 0) tNil)) tNext)
  (tSeq (tAsg (tMeth (He.ga K "Reader") "value" p_value [] E0 (tVar 0) tNil) (gName 2))
  (tSeq (tDrop (tMeth (He.ga K "Reader") "step" p_step [] E0 (tVar 0) tNil))
  (tSeq (tAsg (tCall p_read_condition [] E0 (tCons (tVar 0) tNil)) (gName 3))
  (tSeq (tDrop (tMeth (He.ga K "Reader") "need_sign" p_need_sign [] E0 (tVar 0) (tCons (tC (.str (mk [93]))) tNil)))
  (tRet (tTup (tCons (tVar 2) (tCons (tVar 1) (tCons (tVar 3) tNil)))))))))))) tNext)
  (tSeq (tAsg (tCall p_read_expression [] E0 (tCons (tVar 0) tNil)) (gName 1))
  (tSeq (tIfS (tOr (tTest (tOp rNe (tMeth (He.ga K "Reader") "kind" p_kind [] E0 (tVar 0) tNil) (tC (.str (mk [115, 105, 103, 110]))))) (tTest (tOp (rIn K true) (tMeth (He.ga K "Reader") "value" p_value [] E0 (tVar 0) tNil) (tC (.ref (He.ga K "RELATIONS")))))) (tDrop (tMeth (He.ga K "Reader") "fail" p_fail [] E0 (tVar 0) tNil)) tNext)
  (tSeq (tAsg (tMeth (He.ga K "Reader") "value" p_value [] E0 (tVar 0) tNil) (gName 4))
  (tSeq (tDrop (tMeth (He.ga K "Reader") "step" p_step [] E0 (tVar 0) tNil))
  (tRet (tTup (tCons (tC (.str (mk [99, 111, 109, 112, 97, 114, 101]))) (tCons (tVar 4) (tCons (tVar 1) (tCons (tCall p_read_expression [] E0 (tCons (tVar 0) tNil)) tNil))))))))))))
def t__law_next (K : PySem.W.Frag) : TS :=
  (tSeq (tIfS (tTest (tOp rGtI (tOp (rIxL K) (tVar 0) (tC (.int 1))) (tC (.int 0)))) (tSeq (tAsg (tOp rModI (tCB cInt1 (tCons (tOp (rIxL K) (tVar 0) (tC (.int 1))) tNil)) (tVar 2)) (gName 3))
  (tSeq (tAsg (tOp rDivI (tCB cInt1 (tCons (tOp (rIxL K) (tVar 0) (tC (.int 1))) tNil)) (tVar 2)) (gSub (tVar 0) (tC (.int 1)) rSetL))
  (tRet (tVar 3)))) tNext)
  (tSeq (tAsg (tC (.int 0)) (gName 4))
  (tSeq (tIfS (tTest (tOp rLtI (tOp (rIxL K) (tVar 0) (tC (.int 0))) (tCB (cLen K) (tCons (tVar 1) tNil)))) (tAsg (tCB cAbs (tCons (tCB cInt1 (tCons (tOp (rIxL K) (tVar 1) (tOp (rIxL K) (tVar 0) (tC (.int 0)))) tNil)) tNil)) (gName 4)) tNext)
  (tSeq (tAsg (tOp rAddI (tOp (rIxL K) (tVar 0) (tC (.int 0))) (tC (.int 1))) (gSub (tVar 0) (tC (.int 0)) rSetL))
  (tSeq (tIfS (tTest (tOp rGeI (tVar 4) (tOp rPowI (tC (.int 10)) (tC (.int 18))))) (tSeq (tAsg (tOp rDivI (tVar 4) (tVar 2)) (gSub (tVar 0) (tC (.int 1)) rSetL))
  (tRet (tOp rModI (tCB cInt1 (tCons (tVar 4) tNil)) (tVar 2)))) tNext)
  (tSeq (tAsg (tOp rModI (tCB cInt1 (tCons (tOp rAddI (tOp rAddI (tOp rMulI (tOp (rIxL K) (tVar 0) (tC (.int 2))) (tC (.int 48271))) (tOp rMulI (tVar 4) (tC (.int 69621)))) (tC (.int 12345))) tNil)) (tC (.int 2147483647))) (gSub (tVar 0) (tC (.int 2)) rSetL))
  (tRet (tOp rModI (tCB cInt1 (tCons (tOp rAddI (tOp rDivI (tOp (rIxL K) (tVar 0) (tC (.int 2))) (tC (.int 7))) (tOp rDivI (tOp rMulI (tOp (rIxL K) (tVar 0) (tC (.int 2))) (tOp (rIxL K) (tVar 0) (tC (.int 2)))) (tC (.int 65537)))) tNil)) (tVar 2)))))))))
def t__law_same (K : PySem.W.Frag) (p__law_same : Sp) : TS :=
  (tSeq (tIfS (tTest (tOp rIsNone (tVar 1) (tC .non))) (tRet (tOp rIsNone (tVar 0) (tC .non))) tNext)
  (tSeq (tIfS (tB (tCB (rIsi K) (tCons (tVar 1) (tCons (tC (.ty "tuple")) tNil)))) (tSeq (tIfS (tOr (tNot (tB (tCB (rIsi K) (tCons (tVar 0) (tCons (tC (.ty "tuple")) tNil))))) (tTest (tOp rNe (tCB (cLen K) (tCons (tVar 0) tNil)) (tCB (cLen K) (tCons (tVar 1) tNil))))) (tRet (tC (.bl false))) tNext)
  (tSeq (tFor (iRng1 (tCons (tCB (cLen K) (tCons (tVar 1) tNil)) tNil)) (gName 2) (tIfS (tNot (tB (tCall p__law_same [] E0 (tCons (tOp (rIxT K) (tVar 0) (tVar 2)) (tCons (tOp (rIxT K) (tVar 1) (tVar 2)) tNil))))) (tRet (tC (.bl false))) tNext))
  (tRet (tC (.bl true))))) tNext)
  (tSeq (tIfS (tB (tCB (rIsi K) (tCons (tVar 1) (tCons (tC (.ty "bool")) tNil)))) (tRet (tAndV (tCB (rIsi K) (tCons (tVar 0) (tCons (tC (.ty "bool")) tNil))) (tOp (rEqD K) (tVar 0) (tVar 1)))) tNext)
  (tSeq (tIfS (tB (tCB (rIsi K) (tCons (tVar 1) (tCons (tC (.ty "int")) tNil)))) (tRet (tAndV (tCB (rIsi K) (tCons (tVar 0) (tCons (tC (.ty "int")) tNil))) (tAndV (tNotV (tCB (rIsi K) (tCons (tVar 0) (tCons (tC (.ty "bool")) tNil)))) (tOp (rEqD K) (tVar 0) (tVar 1))))) tNext)
  (tRet (tAndV (tCB (rIsi K) (tCons (tVar 0) (tCons (tC (.ty "str")) tNil))) (tOp (rEqD K) (tVar 0) (tVar 1))))))))
def t__law_word (K : PySem.W.Frag) (p__law_next : Sp) : TS :=
  (tSeq (tAsg (tC (.str (mk [97, 98, 99, 100, 101, 102, 103, 104, 105, 106, 107, 108, 109, 110, 111, 112, 113, 114, 115, 116, 117, 118, 119, 120, 121, 122]))) (gName 2))
  (tSeq (tAsg (tOp rAddS (tVar 2) (tC (.str (mk [48, 49, 50, 51, 52, 53, 54, 55, 56, 57, 95])))) (gName 3))
  (tSeq (tAsg (tOp rAddI (tC (.int 1)) (tCall p__law_next [] E0 (tCons (tVar 0) (tCons (tVar 1) (tCons (tOp (rIxL K) (tLst (tCons (tC (.int 3)) (tCons (tC (.int 12)) tNil))) (tCall p__law_next [] E0 (tCons (tVar 0) (tCons (tVar 1) (tCons (tC (.int 2)) tNil))))) tNil))))) (gName 4))
  (tSeq (tAsg (tOp rIxS (tVar 2) (tCall p__law_next [] E0 (tCons (tVar 0) (tCons (tVar 1) (tCons (tC (.int 26)) tNil))))) (gName 5))
  (tSeq (tFor (iRng1 (tCons (tOp rSubI (tVar 4) (tC (.int 1))) tNil)) (gName 6) (tAsg (tOp rAddS (tVar 5) (tOp rIxS (tVar 3) (tCall p__law_next [] E0 (tCons (tVar 0) (tCons (tVar 1) (tCons (tC (.int 37)) tNil)))))) (gName 5)))
  (tRet (tVar 5)))))))
def t__law_reserved (K : PySem.W.Frag) : TS :=
  (tSeq (tAsg (tLst (tCons (tC (.str (mk [103, 108, 111, 98, 97, 108]))) (tCons (tC (.str (mk [112, 114, 111, 99]))) (tCons (tC (.str (mk [97, 115, 107]))) (tCons (tC (.str (mk [116, 101, 108, 108]))) (tCons (tC (.str (mk [99, 104, 101, 99, 107]))) (tCons (tC (.str (mk [110, 101, 101, 100]))) (tCons (tC (.str (mk [114, 101, 116, 117, 114, 110]))) (tCons (tC (.str (mk [105, 102]))) (tCons (tC (.str (mk [101, 108, 115, 101]))) (tCons (tC (.str (mk [119, 104, 105, 108, 101]))) tNil))))))))))) (gName 0))
  (tRet (tOp rCat (tVar 0) (tLst (tCons (tC (.str (mk [99, 97, 108, 108]))) (tCons (tC (.str (mk [116, 111]))) (tCons (tC (.str (mk [109, 111, 100]))) (tCons (tC (.str (mk [110, 111, 116]))) (tCons (tC (.str (mk [97, 110, 100]))) (tCons (tC (.str (mk [111, 114]))) tNil))))))))))
def t__law_name (K : PySem.W.Frag) (p__law_word p__law_reserved : Sp) : TS :=
  (tSeq (tAsg (tCall p__law_word [] E0 (tCons (tVar 0) (tCons (tVar 1) tNil))) (gName 2))
  (tSeq (tIfS (tTest (tOp (rIn K false) (tVar 2) (tCall p__law_reserved [] E0 tNil))) (tRet (tOp rAddS (tVar 2) (tC (.str (mk [120]))))) tNext)
  (tRet (tVar 2))))
def t__law_any_expression (K : PySem.W.Frag) (p__law_next p__law_any_expression p__law_name : Sp) : TS :=
  (tSeq (tAsg (tCall p__law_next [] E0 (tCons (tVar 0) (tCons (tVar 1) (tCons (tC (.int 5)) tNil)))) (gName 3))
  (tSeq (tIfS (tAnd (tTest (tOp rGtI (tVar 2) (tC (.int 0)))) (tTest (tOp rLtI (tVar 3) (tC (.int 2))))) (tSeq (tAsg (tCall p__law_any_expression [] E0 (tCons (tVar 0) (tCons (tVar 1) (tCons (tOp rSubI (tVar 2) (tC (.int 1))) tNil)))) (gName 4))
  (tSeq (tAsg (tOp (rIxL K) (tLst (tCons (tC (.str (mk [43]))) (tCons (tC (.str (mk [45]))) (tCons (tC (.str (mk [42]))) (tCons (tC (.str (mk [47]))) (tCons (tC (.str (mk [109, 111, 100]))) tNil)))))) (tCall p__law_next [] E0 (tCons (tVar 0) (tCons (tVar 1) (tCons (tC (.int 5)) tNil))))) (gName 5))
  (tRet (tTup (tCons (tC (.str (mk [111, 112]))) (tCons (tVar 5) (tCons (tVar 4) (tCons (tCall p__law_any_expression [] E0 (tCons (tVar 0) (tCons (tVar 1) (tCons (tOp rSubI (tVar 2) (tC (.int 1))) tNil)))) tNil)))))))) tNext)
  (tSeq (tIfS (tTest (tOp rEq (tVar 3) (tC (.int 2)))) (tRet (tTup (tCons (tC (.str (mk [110, 117, 109, 98, 101, 114]))) (tCons (tOp rMulI (tOp (rIxL K) (tLst (tCons (tC (.int 1)) (tCons (tUn rNegI (tC (.int 1))) tNil))) (tCall p__law_next [] E0 (tCons (tVar 0) (tCons (tVar 1) (tCons (tC (.int 2)) tNil))))) (tCall p__law_next [] E0 (tCons (tVar 0) (tCons (tVar 1) (tCons (tOp (rIxL K) (tLst (tCons (tC (.int 12)) (tCons (tC (.int 10001)) tNil))) (tCall p__law_next [] E0 (tCons (tVar 0) (tCons (tVar 1) (tCons (tC (.int 2)) tNil))))) tNil))))) tNil)))) tNext)
  (tRet (tTup (tCons (tC (.str (mk [110, 97, 109, 101]))) (tCons (tCall p__law_name [] E0 (tCons (tVar 0) (tCons (tVar 1) tNil))) tNil)))))))
def t__law_any_condition (K : PySem.W.Frag) (p__law_next p__law_any_condition p__law_any_expression : Sp) : TS :=
  (tSeq (tAsg (tCall p__law_next [] E0 (tCons (tVar 0) (tCons (tVar 1) (tCons (tC (.int 6)) tNil)))) (gName 3))
  (tSeq (tIfS (tAnd (tTest (tOp rGtI (tVar 2) (tC (.int 0)))) (tTest (tOp rEq (tVar 3) (tC (.int 0))))) (tRet (tTup (tCons (tC (.str (mk [110, 111, 116]))) (tCons (tCall p__law_any_condition [] E0 (tCons (tVar 0) (tCons (tVar 1) (tCons (tOp rSubI (tVar 2) (tC (.int 1))) tNil)))) tNil)))) tNext)
  (tSeq (tIfS (tAnd (tTest (tOp rGtI (tVar 2) (tC (.int 0)))) (tTest (tOp rLtI (tVar 3) (tC (.int 3))))) (tSeq (tAsg (tCall p__law_any_condition [] E0 (tCons (tVar 0) (tCons (tVar 1) (tCons (tOp rSubI (tVar 2) (tC (.int 1))) tNil)))) (gName 4))
  (tRet (tTup (tCons (tOp (rIxL K) (tLst (tCons (tC (.str (mk [97, 110, 100]))) (tCons (tC (.str (mk [111, 114]))) tNil))) (tOp rSubI (tVar 3) (tC (.int 1)))) (tCons (tVar 4) (tCons (tCall p__law_any_condition [] E0 (tCons (tVar 0) (tCons (tVar 1) (tCons (tOp rSubI (tVar 2) (tC (.int 1))) tNil)))) tNil)))))) tNext)
  (tSeq (tAsg (tCall p__law_any_expression [] E0 (tCons (tVar 0) (tCons (tVar 1) (tCons (tC (.int 1)) tNil)))) (gName 4))
  (tRet (tTup (tCons (tC (.str (mk [99, 111, 109, 112, 97, 114, 101]))) (tCons (tOp (rIxL K) (tLst (tCons (tC (.str (mk [60]))) (tCons (tC (.str (mk [60, 61]))) (tCons (tC (.str (mk [61, 61]))) (tCons (tC (.str (mk [33, 61]))) tNil))))) (tCall p__law_next [] E0 (tCons (tVar 0) (tCons (tVar 1) (tCons (tC (.int 4)) tNil))))) (tCons (tVar 4) (tCons (tCall p__law_any_expression [] E0 (tCons (tVar 0) (tCons (tVar 1) (tCons (tC (.int 1)) tNil)))) tNil))))))))))
def t__law_any_call (K : PySem.W.Frag) (p__law_next p__law_any_expression p__law_name : Sp) : TS :=
  (tSeq (tAsg (tCB (cTup K) (tCons (tLc (iRng1 (tCons (tCall p__law_next [] E0 (tCons (tVar 0) (tCons (tVar 1) (tCons (tC (.int 4)) tNil)))) tNil)) (gName 4) tYes (tCall p__law_any_expression [] E0 (tCons (tVar 0) (tCons (tVar 1) (tCons (tC (.int 1)) tNil)))) [4]) tNil)) (gName 2))
  (tSeq (tAsg (tCall p__law_name [] E0 (tCons (tVar 0) (tCons (tVar 1) tNil))) (gName 3))
  (tSeq (tIfS (tTest (tOp rEq (tCall p__law_next [] E0 (tCons (tVar 0) (tCons (tVar 1) (tCons (tC (.int 2)) tNil)))) (tC (.int 0)))) (tRet (tTup (tCons (tC (.str (mk [99, 97, 108, 108]))) (tCons (tVar 3) (tCons (tVar 2) (tCons (tCall p__law_name [] E0 (tCons (tVar 0) (tCons (tVar 1) tNil))) tNil)))))) tNext)
  (tRet (tTup (tCons (tC (.str (mk [99, 97, 108, 108]))) (tCons (tVar 3) (tCons (tVar 2) (tCons (tC .non) tNil)))))))))
def t__law_any_statement (K : PySem.W.Frag) (p__law_next p__law_any_condition p__law_any_block p__law_any_call p__law_name p__law_any_expression : Sp) : TS :=
  (tSeq (tAsg (tCall p__law_next [] E0 (tCons (tVar 0) (tCons (tVar 1) (tCons (tC (.int 9)) tNil)))) (gName 3))
  (tSeq (tIfS (tAnd (tTest (tOp rLtI (tVar 3) (tC (.int 2)))) (tTest (tOp rGtI (tVar 2) (tC (.int 0))))) (tSeq (tAsg (tCall p__law_any_condition [] E0 (tCons (tVar 0) (tCons (tVar 1) (tCons (tC (.int 2)) tNil)))) (gName 4))
  (tSeq (tAsg (tCall p__law_any_block [] E0 (tCons (tVar 0) (tCons (tVar 1) (tCons (tOp rSubI (tVar 2) (tC (.int 1))) tNil)))) (gName 5))
  (tRet (tTup (tCons (tC (.str (mk [105, 102]))) (tCons (tVar 4) (tCons (tVar 5) (tCons (tCall p__law_any_block [] E0 (tCons (tVar 0) (tCons (tVar 1) (tCons (tOp rSubI (tVar 2) (tC (.int 1))) tNil)))) tNil)))))))) tNext)
  (tSeq (tIfS (tAnd (tTest (tOp rEq (tVar 3) (tC (.int 2)))) (tTest (tOp rGtI (tVar 2) (tC (.int 0))))) (tSeq (tAsg (tCall p__law_any_condition [] E0 (tCons (tVar 0) (tCons (tVar 1) (tCons (tC (.int 2)) tNil)))) (gName 4))
  (tRet (tTup (tCons (tC (.str (mk [119, 104, 105, 108, 101]))) (tCons (tVar 4) (tCons (tCall p__law_any_block [] E0 (tCons (tVar 0) (tCons (tVar 1) (tCons (tOp rSubI (tVar 2) (tC (.int 1))) tNil)))) tNil)))))) tNext)
  (tSeq (tIfS (tTest (tOp rLtI (tVar 3) (tC (.int 4)))) (tRet (tCall p__law_any_call [] E0 (tCons (tVar 0) (tCons (tVar 1) tNil)))) tNext)
  (tSeq (tIfS (tTest (tOp rEq (tVar 3) (tC (.int 4)))) (tRet (tTup (tCons (tC (.str (mk [97, 115, 107]))) (tCons (tCall p__law_name [] E0 (tCons (tVar 0) (tCons (tVar 1) tNil))) tNil)))) tNext)
  (tSeq (tIfS (tTest (tOp rEq (tVar 3) (tC (.int 5)))) (tRet (tTup (tCons (tOp (rIxL K) (tLst (tCons (tC (.str (mk [99, 104, 101, 99, 107]))) (tCons (tC (.str (mk [110, 101, 101, 100]))) tNil))) (tCall p__law_next [] E0 (tCons (tVar 0) (tCons (tVar 1) (tCons (tC (.int 2)) tNil))))) (tCons (tCall p__law_any_condition [] E0 (tCons (tVar 0) (tCons (tVar 1) (tCons (tC (.int 2)) tNil)))) tNil)))) tNext)
  (tSeq (tIfS (tTest (tOp rEq (tVar 3) (tC (.int 6)))) (tRet (tTup (tCons (tOp (rIxL K) (tLst (tCons (tC (.str (mk [116, 101, 108, 108]))) (tCons (tC (.str (mk [114, 101, 116, 117, 114, 110]))) tNil))) (tCall p__law_next [] E0 (tCons (tVar 0) (tCons (tVar 1) (tCons (tC (.int 2)) tNil))))) (tCons (tCall p__law_any_expression [] E0 (tCons (tVar 0) (tCons (tVar 1) (tCons (tC (.int 3)) tNil)))) tNil)))) tNext)
  (tRet (tTup (tCons (tC (.str (mk [115, 101, 116]))) (tCons (tCall p__law_name [] E0 (tCons (tVar 0) (tCons (tVar 1) tNil))) (tCons (tCall p__law_any_expression [] E0 (tCons (tVar 0) (tCons (tVar 1) (tCons (tC (.int 3)) tNil)))) tNil))))))))))))
def t__law_any_block (K : PySem.W.Frag) (p__law_next p__law_any_statement : Sp) : TS :=
  (tSeq (tAsg (tLst tNil) (gName 3))
  (tSeq (tFor (iRng1 (tCons (tCall p__law_next [] E0 (tCons (tVar 0) (tCons (tVar 1) (tCons (tC (.int 4)) tNil)))) tNil)) (gName 4) (tIfS (tTest (tOp rGtI (tOp (rIxL K) (tVar 0) (tC (.int 3))) (tC (.int 0)))) (tSeq (tAsg (tOp rSubI (tOp (rIxL K) (tVar 0) (tC (.int 3))) (tC (.int 1))) (gSub (tVar 0) (tC (.int 3)) rSetL))
  (tDrop (tBM K "list" rAppend (tVar 3) (tCons (tCall p__law_any_statement [] E0 (tCons (tVar 0) (tCons (tVar 1) (tCons (tVar 2) tNil)))) tNil)))) tNext))
  (tRet (tCB (cTup K) (tCons (tVar 3) tNil)))))
def t__law_any_program (K : PySem.W.Frag) (p__law_next p__law_name p__law_any_block : Sp) : TS :=
  (tSeq (tAsg (tOp (rIxL K) (tLst (tCons (tLst (tCons (tC (.int 4)) (tCons (tC (.int 4)) (tCons (tC (.int 4)) tNil)))) (tCons (tLst (tCons (tC (.int 4)) (tCons (tC (.int 4)) (tCons (tC (.int 4)) tNil)))) (tCons (tLst (tCons (tC (.int 9)) (tCons (tC (.int 11)) (tCons (tC (.int 8)) tNil)))) tNil)))) (tCall p__law_next [] E0 (tCons (tVar 0) (tCons (tVar 1) (tCons (tC (.int 3)) tNil))))) (gName 2))
  (tSeq (tAsg (tCB (cTup K) (tCons (tLc (iRng1 (tCons (tCall p__law_next [] E0 (tCons (tVar 0) (tCons (tVar 1) (tCons (tOp (rIxL K) (tVar 2) (tC (.int 0))) tNil)))) tNil)) (gName 3) tYes (tCall p__law_name [] E0 (tCons (tVar 0) (tCons (tVar 1) tNil))) [3]) tNil)) (gName 4))
  (tSeq (tAsg (tC (.int 12)) (gSub (tVar 0) (tC (.int 3)) rSetL))
  (tSeq (tAsg (tLst tNil) (gName 5))
  (tSeq (tFor (iRng1 (tCons (tCall p__law_next [] E0 (tCons (tVar 0) (tCons (tVar 1) (tCons (tOp (rIxL K) (tVar 2) (tC (.int 1))) tNil)))) tNil)) (gName 3) (tSeq (tAsg (tCall p__law_name [] E0 (tCons (tVar 0) (tCons (tVar 1) tNil))) (gName 6))
  (tSeq (tAsg (tCB (cTup K) (tCons (tLc (iRng1 (tCons (tCall p__law_next [] E0 (tCons (tVar 0) (tCons (tVar 1) (tCons (tOp (rIxL K) (tVar 2) (tC (.int 2))) tNil)))) tNil)) (gName 9) tYes (tCall p__law_name [] E0 (tCons (tVar 0) (tCons (tVar 1) tNil))) [9]) tNil)) (gName 7))
  (tSeq (tAsg (tCall p__law_any_block [] E0 (tCons (tVar 0) (tCons (tVar 1) (tCons (tC (.int 3)) tNil)))) (gName 8))
  (tSeq (tIfS (tAnd (tTest (tOp rEq (tOp (rIxL K) (tVar 2) (tC (.int 0))) (tC (.int 9)))) (tTest (tOp rEq (tVar 3) (tC (.int 0))))) (tAsg (tOp (rCatA K) (tVar 8) (tOp (rRepA K) (tTup (tCons (tTup (tCons (tC (.str (mk [97, 115, 107]))) (tCons (tVar 6) tNil))) tNil)) (tCall p__law_next [] E0 (tCons (tVar 0) (tCons (tVar 1) (tCons (tC (.int 50)) tNil)))))) (gName 8)) tNext)
  (tDrop (tBM K "list" rAppend (tVar 5) (tCons (tTup (tCons (tVar 6) (tCons (tVar 7) (tCons (tVar 8) tNil)))) tNil))))))))
  (tRet (tTup (tCons (tVar 4) (tCons (tCB (cTup K) (tCons (tVar 5) tNil)) tNil)))))))))
def t__law_listed (K : PySem.W.Frag) : TS :=
  (tSeq (tAsg (tLst tNil) (gName 1))
  (tSeq (tFor (iRng1 (tCons (tCB (cLen K) (tCons (tVar 0) tNil)) tNil)) (gName 2) (tSeq (tIfS (tTest (tOp rGtI (tVar 2) (tC (.int 0)))) (tDrop (tBM K "list" rAppend (tVar 1) (tCons (tC (.str (mk [44]))) tNil))) tNext)
  (tAsg (tOp rCat (tVar 1) (tOp (rIxL K) (tVar 0) (tVar 2))) (gName 1))))
  (tRet (tVar 1))))
def t__law_expression_words (K : PySem.W.Frag) (p__law_expression_words : Sp) : TS :=
  (tSeq (tIfS (tTest (tOp rEq (tOp (rIxT K) (tVar 0) (tC (.int 0))) (tC (.str (mk [110, 117, 109, 98, 101, 114]))))) (tSeq (tIfS (tTest (tOp rLtI (tOp (rIxT K) (tVar 0) (tC (.int 1))) (tC (.int 0)))) (tRet (tLst (tCons (tC (.str (mk [45]))) (tCons (tCB cStrI (tCons (tOp rSubI (tC (.int 0)) (tOp (rIxT K) (tVar 0) (tC (.int 1)))) tNil)) tNil)))) tNext)
  (tRet (tLst (tCons (tCB cStrI (tCons (tOp (rIxT K) (tVar 0) (tC (.int 1))) tNil)) tNil)))) tNext)
  (tSeq (tIfS (tTest (tOp rEq (tOp (rIxT K) (tVar 0) (tC (.int 0))) (tC (.str (mk [110, 97, 109, 101]))))) (tRet (tLst (tCons (tOp (rIxT K) (tVar 0) (tC (.int 1))) tNil))) tNext)
  (tRet (tOp rCat (tOp rCat (tOp rCat (tOp rCat (tLst (tCons (tC (.str (mk [40]))) tNil)) (tCall p__law_expression_words [] E0 (tCons (tOp (rIxT K) (tVar 0) (tC (.int 2))) tNil))) (tLst (tCons (tOp (rIxT K) (tVar 0) (tC (.int 1))) tNil))) (tCall p__law_expression_words [] E0 (tCons (tOp (rIxT K) (tVar 0) (tC (.int 3))) tNil))) (tLst (tCons (tC (.str (mk [41]))) tNil))))))
def t__law_condition_words (K : PySem.W.Frag) (p__law_condition_words p__law_expression_words : Sp) : TS :=
  (tSeq (tIfS (tTest (tOp rEq (tOp (rIxT K) (tVar 0) (tC (.int 0))) (tC (.str (mk [110, 111, 116]))))) (tRet (tOp rCat (tLst (tCons (tC (.str (mk [110, 111, 116]))) tNil)) (tCall p__law_condition_words [] E0 (tCons (tOp (rIxT K) (tVar 0) (tC (.int 1))) tNil)))) tNext)
  (tSeq (tIfS (tTest (tOp rEq (tOp (rIxT K) (tVar 0) (tC (.int 0))) (tC (.str (mk [99, 111, 109, 112, 97, 114, 101]))))) (tRet (tOp rCat (tOp rCat (tCall p__law_expression_words [] E0 (tCons (tOp (rIxT K) (tVar 0) (tC (.int 2))) tNil)) (tLst (tCons (tOp (rIxT K) (tVar 0) (tC (.int 1))) tNil))) (tCall p__law_expression_words [] E0 (tCons (tOp (rIxT K) (tVar 0) (tC (.int 3))) tNil)))) tNext)
  (tRet (tOp rCat (tOp rCat (tOp rCat (tOp rCat (tLst (tCons (tC (.str (mk [91]))) tNil)) (tCall p__law_condition_words [] E0 (tCons (tOp (rIxT K) (tVar 0) (tC (.int 1))) tNil))) (tLst (tCons (tOp (rIxT K) (tVar 0) (tC (.int 0))) tNil))) (tCall p__law_condition_words [] E0 (tCons (tOp (rIxT K) (tVar 0) (tC (.int 2))) tNil))) (tLst (tCons (tC (.str (mk [93]))) tNil))))))
def t__law_statement_words (K : PySem.W.Frag) (p__law_expression_words p__law_condition_words p__law_listed p__law_block_words : Sp) : TS :=
  (tSeq (tAsg (tOp (rIxT K) (tVar 0) (tC (.int 0))) (gName 1))
  (tSeq (tIfS (tTest (tOp rEq (tVar 1) (tC (.str (mk [115, 101, 116]))))) (tRet (tOp rCat (tOp rCat (tLst (tCons (tOp (rIxT K) (tVar 0) (tC (.int 1))) (tCons (tC (.str (mk [61]))) tNil))) (tCall p__law_expression_words [] E0 (tCons (tOp (rIxT K) (tVar 0) (tC (.int 2))) tNil))) (tLst (tCons (tC (.str (mk [59]))) tNil)))) tNext)
  (tSeq (tIfS (tTest (tOp rEq (tVar 1) (tC (.str (mk [97, 115, 107]))))) (tRet (tLst (tCons (tC (.str (mk [97, 115, 107]))) (tCons (tOp (rIxT K) (tVar 0) (tC (.int 1))) (tCons (tC (.str (mk [59]))) tNil))))) tNext)
  (tSeq (tIfS (tTest (tOp (rIn K false) (tVar 1) (tTup (tCons (tC (.str (mk [116, 101, 108, 108]))) (tCons (tC (.str (mk [114, 101, 116, 117, 114, 110]))) tNil))))) (tRet (tOp rCat (tOp rCat (tLst (tCons (tVar 1) tNil)) (tCall p__law_expression_words [] E0 (tCons (tOp (rIxT K) (tVar 0) (tC (.int 1))) tNil))) (tLst (tCons (tC (.str (mk [59]))) tNil)))) tNext)
  (tSeq (tIfS (tTest (tOp (rIn K false) (tVar 1) (tTup (tCons (tC (.str (mk [99, 104, 101, 99, 107]))) (tCons (tC (.str (mk [110, 101, 101, 100]))) tNil))))) (tRet (tOp rCat (tOp rCat (tLst (tCons (tVar 1) tNil)) (tCall p__law_condition_words [] E0 (tCons (tOp (rIxT K) (tVar 0) (tC (.int 1))) tNil))) (tLst (tCons (tC (.str (mk [59]))) tNil)))) tNext)
  (tSeq (tIfS (tTest (tOp rEq (tVar 1) (tC (.str (mk [99, 97, 108, 108]))))) (tSeq (tAsg (tOp rCat (tOp rCat (tLst (tCons (tC (.str (mk [99, 97, 108, 108]))) (tCons (tOp (rIxT K) (tVar 0) (tC (.int 1))) (tCons (tC (.str (mk [40]))) tNil)))) (tCall p__law_listed [] E0 (tCons (tLc (iTup K (tOp (rIxT K) (tVar 0) (tC (.int 2)))) (gName 3) tYes (tCall p__law_expression_words [] E0 (tCons (tVar 3) tNil)) [3]) tNil))) (tLst (tCons (tC (.str (mk [41]))) tNil))) (gName 2))
  (tSeq (tIfS (tTest (tOp rIsntNone (tOp (rIxT K) (tVar 0) (tC (.int 3))) (tC .non))) (tAsg (tOp rCat (tVar 2) (tLst (tCons (tC (.str (mk [116, 111]))) (tCons (tOp (rIxT K) (tVar 0) (tC (.int 3))) tNil)))) (gName 2)) tNext)
  (tRet (tOp rCat (tVar 2) (tLst (tCons (tC (.str (mk [59]))) tNil)))))) tNext)
  (tSeq (tAsg (tOp rCat (tOp rCat (tLst (tCons (tVar 1) tNil)) (tCall p__law_condition_words [] E0 (tCons (tOp (rIxT K) (tVar 0) (tC (.int 1))) tNil))) (tCall p__law_block_words [] E0 (tCons (tOp (rIxT K) (tVar 0) (tC (.int 2))) tNil))) (gName 2))
  (tSeq (tIfS (tAnd (tTest (tOp rEq (tVar 1) (tC (.str (mk [105, 102]))))) (tTest (tOp (rNeD K) (tOp (rIxT K) (tVar 0) (tC (.int 3))) (tTup tNil)))) (tAsg (tOp rCat (tOp rCat (tVar 2) (tLst (tCons (tC (.str (mk [101, 108, 115, 101]))) tNil))) (tCall p__law_block_words [] E0 (tCons (tOp (rIxT K) (tVar 0) (tC (.int 3))) tNil))) (gName 2)) tNext)
  (tRet (tVar 2))))))))))
def t__law_block_words (K : PySem.W.Frag) (p__law_statement_words : Sp) : TS :=
  (tSeq (tAsg (tLst (tCons (tC (.str (mk [123]))) tNil)) (gName 1))
  (tSeq (tFor (iTup K (tVar 0)) (gName 2) (tAsg (tOp rCat (tVar 1) (tCall p__law_statement_words [] E0 (tCons (tVar 2) tNil))) (gName 1)))
  (tRet (tOp rCat (tVar 1) (tLst (tCons (tC (.str (mk [125]))) tNil))))))
def t__law_program_words (K : PySem.W.Frag) (p__law_listed p__law_block_words : Sp) : TS :=
  (tSeq (tAsg (tLst tNil) (gName 1))
  (tSeq (tFor (iTup K (tOp (rIxT K) (tVar 0) (tC (.int 0)))) (gName 2) (tAsg (tOp rCat (tVar 1) (tLst (tCons (tC (.str (mk [103, 108, 111, 98, 97, 108]))) (tCons (tVar 2) (tCons (tC (.str (mk [59]))) tNil))))) (gName 1)))
  (tSeq (tFor (iTup K (tOp (rIxT K) (tVar 0) (tC (.int 1)))) (gTup K 3 (gCons (gName 2) (gCons (gName 3) (gCons (gName 4) gNil)))) (tAsg (tOp rCat (tOp rCat (tOp rCat (tOp rCat (tVar 1) (tLst (tCons (tC (.str (mk [112, 114, 111, 99]))) (tCons (tVar 2) (tCons (tC (.str (mk [40]))) tNil))))) (tCall p__law_listed [] E0 (tCons (tLc (iTup K (tVar 3)) (gName 5) tYes (tLst (tCons (tVar 5) tNil)) [5]) tNil))) (tLst (tCons (tC (.str (mk [41]))) tNil))) (tCall p__law_block_words [] E0 (tCons (tVar 4) tNil))) (gName 1)))
  (tRet (tVar 1)))))
def t__law_gap (K : PySem.W.Frag) (p__law_sign : Sp) : TS :=
  (tSeq (tIfS (tOr (tTest (tOp (rIn K false) (tVar 2) (tTup (tCons (tC (.str (mk [59]))) (tCons (tC (.str (mk [44]))) (tCons (tC (.str (mk [41]))) (tCons (tC (.str (mk [93]))) tNil))))))) (tTest (tOp (rIn K false) (tVar 1) (tTup (tCons (tC (.str (mk [40]))) (tCons (tC (.str (mk [91]))) tNil)))))) (tRet (tC (.bl false))) tNext)
  (tSeq (tIfS (tAnd (tTest (tOp rEq (tVar 2) (tC (.str (mk [40]))))) (tTest (tOp (rIn K false) (tVar 0) (tTup (tCons (tC (.str (mk [112, 114, 111, 99]))) (tCons (tC (.str (mk [99, 97, 108, 108]))) tNil)))))) (tRet (tC (.bl false))) tNext)
  (tRet (tNotV (tAndV (tOp rEq (tVar 1) (tC (.str (mk [45])))) (tCall p__law_sign [] E0 (tCons (tVar 0) tNil)))))))
def t__law_sign (K : PySem.W.Frag) (p__law_reserved : Sp) : TS :=
  (tSeq (tIfS (tTest (tOp rEq (tVar 0) (tC (.str (mk [41]))))) (tRet (tC (.bl false))) tNext)
  (tRet (tOrV (tOp rNotInStr (tSl rSlS (tVar 0) tNoPart (tPart (tC (.int 1)))) (tC (.str (mk [97, 98, 99, 100, 101, 102, 103, 104, 105, 106, 107, 108, 109, 110, 111, 112, 113, 114, 115, 116, 117, 118, 119, 120, 121, 122, 48, 49, 50, 51, 52, 53, 54, 55, 56, 57])))) (tOrV (tOp (rIn K false) (tVar 0) (tCall p__law_reserved [] E0 tNil)) (tOp rEq (tVar 0) (tC (.str (mk []))))))))
def t__law_line (K : PySem.W.Frag) (p__law_gap : Sp) : TS :=
  (tSeq (tAsg (tC (.str (mk []))) (gName 1))
  (tSeq (tFor (iRng1 (tCons (tCB (cLen K) (tCons (tVar 0) tNil)) tNil)) (gName 2) (tSeq (tIfS (tTest (tOp rGtI (tVar 2) (tC (.int 0)))) (tSeq (tAsg (tIf (tTest (tOp rGtI (tVar 2) (tC (.int 1)))) (tOp (rIxL K) (tVar 0) (tOp rSubI (tVar 2) (tC (.int 2)))) (tC (.str (mk [])))) (gName 3))
  (tIfS (tB (tCall p__law_gap [] E0 (tCons (tVar 3) (tCons (tOp (rIxL K) (tVar 0) (tOp rSubI (tVar 2) (tC (.int 1)))) (tCons (tOp (rIxL K) (tVar 0) (tVar 2)) tNil))))) (tAsg (tOp rAddS (tVar 1) (tC (.str (mk [32])))) (gName 1)) tNext)) tNext)
  (tAsg (tOp rAddS (tVar 1) (tOp (rIxL K) (tVar 0) (tVar 2))) (gName 1))))
  (tRet (tVar 1))))
def t__law_text (K : PySem.W.Frag) (p__law_line : Sp) : TS :=
  (tSeq (tAsg (tC (.str (mk []))) (gName 1))
  (tSeq (tAsg (tC (.int 0)) (gName 2))
  (tSeq (tAsg (tLst tNil) (gName 3))
  (tSeq (tFor (iRng1 (tCons (tCB (cLen K) (tCons (tVar 0) tNil)) tNil)) (gName 4) (tSeq (tAsg (tOp (rIxL K) (tVar 0) (tVar 4)) (gName 5))
  (tSeq (tIfS (tTest (tOp rEq (tVar 5) (tC (.str (mk [125]))))) (tAsg (tOp rSubI (tVar 2) (tC (.int 1))) (gName 2)) tNext)
  (tSeq (tDrop (tBM K "list" rAppend (tVar 3) (tCons (tVar 5) tNil)))
  (tSeq (tAsg (tIf (tTest (tOp rLtI (tOp rAddI (tVar 4) (tC (.int 1))) (tCB (cLen K) (tCons (tVar 0) tNil)))) (tOp (rIxL K) (tVar 0) (tOp rAddI (tVar 4) (tC (.int 1)))) (tC (.str (mk [])))) (gName 6))
  (tSeq (tAsg (tOrV (tOp (rIn K false) (tVar 5) (tTup (tCons (tC (.str (mk [59]))) (tCons (tC (.str (mk [123]))) tNil)))) (tAndV (tOp rEq (tVar 5) (tC (.str (mk [125])))) (tOp rNe (tVar 6) (tC (.str (mk [101, 108, 115, 101])))))) (gName 7))
  (tSeq (tIfS (tAnd (tTest (tOp rEq (tVar 5) (tC (.str (mk [125]))))) (tTest (tOp rEq (tVar 6) (tC (.str (mk [101, 108, 115, 101])))))) (tAsg (tLst (tCons (tC (.str (mk [125]))) tNil)) (gName 3)) tNext)
  (tSeq (tIfS (tB (tVar 7)) (tSeq (tAsg (tVar 2) (gName 8))
  (tSeq (tAsg (tOp rAddS (tOp rAddS (tOp rAddS (tVar 1) (tOp rRepS (tC (.str (mk [32, 32, 32, 32]))) (tVar 8))) (tCall p__law_line [] E0 (tCons (tVar 3) tNil))) (tC (.str (mk [10])))) (gName 1))
  (tAsg (tLst tNil) (gName 3)))) tNext)
  (tIfS (tTest (tOp rEq (tVar 5) (tC (.str (mk [123]))))) (tAsg (tOp rAddI (tVar 2) (tC (.int 1))) (gName 2)) tNext)))))))))
  (tRet (tVar 1))))))
def t_law (K : PySem.W.Frag) (p__law_any_program p__law_program_words p_write p__law_same p__law_text p_parse p_tokens : Sp) : TS :=
  (tSeq (tAsg (tLst (tCons (tC (.int 0)) (tCons (tC (.int 0)) (tCons (tC (.int 1)) (tCons (tC (.int 0)) tNil))))) (gName 1))
  (tSeq (tFor (iRng1 (tCons (tC (.int 2)) tNil)) (gName 2) (tSeq (tAsg (tCall p__law_any_program [] E0 (tCons (tVar 1) (tCons (tVar 0) tNil))) (gName 3))
  (tSeq (tAsg (tCall p__law_program_words [] E0 (tCons (tVar 3) tNil)) (gName 4))
  (tSeq (tIfS (tTest (tOp rGtI (tCB (cLen K) (tCons (tVar 4) tNil)) (tC (.int 1000)))) (tRet (tC (.bl true))) tNext)
  (tSeq (tAsg (tCB (cRepr K) (tCons (tVar 3) tNil)) (gName 5))
  (tSeq (tAsg (tCall p_write [] E0 (tCons (tVar 3) tNil)) (gName 6))
  (tSeq (tIfS (tOr (tNot (tB (tCall p__law_same [] E0 (tCons (tVar 6) (tCons (tCall p__law_text [] E0 (tCons (tVar 4) tNil)) tNil))))) (tOr (tNot (tB (tCall p__law_same [] E0 (tCons (tCall p_parse [] E0 (tCons (tVar 6) tNil)) (tCons (tVar 3) tNil))))) (tTest (tOp rNe (tCB (cRepr K) (tCons (tVar 3) tNil)) (tVar 5))))) (tRet (tC (.bl false))) tNext)
  (tIfS (tTest (tOp (rNeD K) (tLc (iTup K (tCall p_tokens [] E0 (tCons (tVar 6) tNil))) (gName 7) tYes (tCB cStrA (tCons (tOp (rIxT K) (tVar 7) (tC (.int 1))) tNil)) [7]) (tVar 4))) (tRet (tC (.bl false))) tNext))))))))
  (tRet (tCall p__law_same [] E0 (tCons (tCall p_write [] E0 (tCons (tTup (tCons (tTup tNil) (tCons (tTup tNil) tNil))) tNil)) (tCons (tC (.str (mk []))) tNil))))))
end Cc
end
section
namespace Cc
open PySem PySem.Spec PyProof.Rows L2
abbrev n_write : List Str := ["program", "names", "procedures", "name", "lines", "parameters", "block", "line"]
abbrev a_write : List Str := ["program"]
theorem sc_write : FnScope n_write a_write (defScope s_write) := ⟨rfl, rfl, rfl, by decide +kernel, rfl, by decide +kernel, by decide +kernel⟩
abbrev n_block_lines : List Str := ["block", "indent", "lines", "statement"]
abbrev a_block_lines : List Str := ["block", "indent"]
theorem sc_block_lines : FnScope n_block_lines a_block_lines (defScope s_block_lines) := ⟨rfl, rfl, rfl, by decide +kernel, rfl, by decide +kernel, by decide +kernel⟩
abbrev n_statement_lines : List Str := ["statement", "indent", "word", "inner", "lines"]
abbrev a_statement_lines : List Str := ["statement", "indent"]
theorem sc_statement_lines : FnScope n_statement_lines a_statement_lines (defScope s_statement_lines) := ⟨rfl, rfl, rfl, by decide +kernel, rfl, by decide +kernel, by decide +kernel⟩
abbrev n_simple_text : List Str := ["statement", "word", "values", "target", "value"]
abbrev a_simple_text : List Str := ["statement"]
theorem sc_simple_text : FnScope n_simple_text a_simple_text (defScope s_simple_text) := ⟨rfl, rfl, rfl, by decide +kernel, rfl, by decide +kernel, by decide +kernel⟩
abbrev n_expression_text : List Str := ["expression", "left"]
abbrev a_expression_text : List Str := ["expression"]
theorem sc_expression_text : FnScope n_expression_text a_expression_text (defScope s_expression_text) := ⟨rfl, rfl, rfl, by decide +kernel, rfl, by decide +kernel, by decide +kernel⟩
abbrev n_condition_text : List Str := ["condition", "word", "left"]
abbrev a_condition_text : List Str := ["condition"]
theorem sc_condition_text : FnScope n_condition_text a_condition_text (defScope s_condition_text) := ⟨rfl, rfl, rfl, by decide +kernel, rfl, by decide +kernel, by decide +kernel⟩
abbrev n_tokens : List Str := ["text", "found", "at", "line", "start", "letter", "kind", "value", "end"]
abbrev a_tokens : List Str := ["text"]
theorem sc_tokens : FnScope n_tokens a_tokens (defScope s_tokens) := ⟨rfl, rfl, rfl, by decide +kernel, rfl, by decide +kernel, by decide +kernel⟩
abbrev n_token_at : List Str := ["text", "at", "letter", "end", "sign"]
abbrev a_token_at : List Str := ["text", "at"]
theorem sc_token_at : FnScope n_token_at a_token_at (defScope s_token_at) := ⟨rfl, rfl, rfl, by decide +kernel, rfl, by decide +kernel, by decide +kernel⟩
abbrev n_end_of : List Str := ["text", "at", "characters", "end"]
abbrev a_end_of : List Str := ["text", "at", "characters"]
theorem sc_end_of : FnScope n_end_of a_end_of (defScope s_end_of) := ⟨rfl, rfl, rfl, by decide +kernel, rfl, by decide +kernel, by decide +kernel⟩
abbrev n_number_at : List Str := ["text", "at", "end", "digits"]
abbrev a_number_at : List Str := ["text", "at"]
theorem sc_number_at : FnScope n_number_at a_number_at (defScope s_number_at) := ⟨rfl, rfl, rfl, by decide +kernel, rfl, by decide +kernel, by decide +kernel⟩
abbrev n_end_place : List Str := ["text", "lines"]
abbrev a_end_place : List Str := ["text"]
theorem sc_end_place : FnScope n_end_place a_end_place (defScope s_end_place) := ⟨rfl, rfl, rfl, by decide +kernel, rfl, by decide +kernel, by decide +kernel⟩
abbrev n_Reader_init : List Str := ["self", "text"]
abbrev a_Reader_init : List Str := ["self", "text"]
theorem sc_Reader_init : FnScope n_Reader_init a_Reader_init (defScope s_Reader_init) := ⟨rfl, rfl, rfl, by decide +kernel, rfl, by decide +kernel, by decide +kernel⟩
abbrev n_Reader_kind : List Str := ["self"]
abbrev a_Reader_kind : List Str := ["self"]
theorem sc_Reader_kind : FnScope n_Reader_kind a_Reader_kind (defScope s_Reader_kind) := ⟨rfl, rfl, rfl, by decide +kernel, rfl, by decide +kernel, by decide +kernel⟩
abbrev n_Reader_value : List Str := ["self"]
abbrev a_Reader_value : List Str := ["self"]
theorem sc_Reader_value : FnScope n_Reader_value a_Reader_value (defScope s_Reader_value) := ⟨rfl, rfl, rfl, by decide +kernel, rfl, by decide +kernel, by decide +kernel⟩
abbrev n_Reader_is_sign : List Str := ["self", "sign"]
abbrev a_Reader_is_sign : List Str := ["self", "sign"]
theorem sc_Reader_is_sign : FnScope n_Reader_is_sign a_Reader_is_sign (defScope s_Reader_is_sign) := ⟨rfl, rfl, rfl, by decide +kernel, rfl, by decide +kernel, by decide +kernel⟩
abbrev n_Reader_is_word : List Str := ["self", "word"]
abbrev a_Reader_is_word : List Str := ["self", "word"]
theorem sc_Reader_is_word : FnScope n_Reader_is_word a_Reader_is_word (defScope s_Reader_is_word) := ⟨rfl, rfl, rfl, by decide +kernel, rfl, by decide +kernel, by decide +kernel⟩
abbrev n_Reader_step : List Str := ["self"]
abbrev a_Reader_step : List Str := ["self"]
theorem sc_Reader_step : FnScope n_Reader_step a_Reader_step (defScope s_Reader_step) := ⟨rfl, rfl, rfl, by decide +kernel, rfl, by decide +kernel, by decide +kernel⟩
abbrev n_Reader_need_sign : List Str := ["self", "sign"]
abbrev a_Reader_need_sign : List Str := ["self", "sign"]
theorem sc_Reader_need_sign : FnScope n_Reader_need_sign a_Reader_need_sign (defScope s_Reader_need_sign) := ⟨rfl, rfl, rfl, by decide +kernel, rfl, by decide +kernel, by decide +kernel⟩
abbrev n_Reader_need_word : List Str := ["self", "word"]
abbrev a_Reader_need_word : List Str := ["self", "word"]
theorem sc_Reader_need_word : FnScope n_Reader_need_word a_Reader_need_word (defScope s_Reader_need_word) := ⟨rfl, rfl, rfl, by decide +kernel, rfl, by decide +kernel, by decide +kernel⟩
abbrev n_Reader_need_name : List Str := ["self", "name"]
abbrev a_Reader_need_name : List Str := ["self"]
theorem sc_Reader_need_name : FnScope n_Reader_need_name a_Reader_need_name (defScope s_Reader_need_name) := ⟨rfl, rfl, rfl, by decide +kernel, rfl, by decide +kernel, by decide +kernel⟩
abbrev n_parse : List Str := ["text", "reader", "names", "procedures", "name", "parameters"]
abbrev a_parse : List Str := ["text"]
theorem sc_parse : FnScope n_parse a_parse (defScope s_parse) := ⟨rfl, rfl, rfl, by decide +kernel, rfl, by decide +kernel, by decide +kernel⟩
abbrev n_read_names : List Str := ["reader", "names"]
abbrev a_read_names : List Str := ["reader"]
theorem sc_read_names : FnScope n_read_names a_read_names (defScope s_read_names) := ⟨rfl, rfl, rfl, by decide +kernel, rfl, by decide +kernel, by decide +kernel⟩
abbrev n_read_block : List Str := ["reader", "statements"]
abbrev a_read_block : List Str := ["reader"]
theorem sc_read_block : FnScope n_read_block a_read_block (defScope s_read_block) := ⟨rfl, rfl, rfl, by decide +kernel, rfl, by decide +kernel, by decide +kernel⟩
abbrev n_read_statement : List Str := ["reader", "word", "condition", "value", "name"]
abbrev a_read_statement : List Str := ["reader"]
theorem sc_read_statement : FnScope n_read_statement a_read_statement (defScope s_read_statement) := ⟨rfl, rfl, rfl, by decide +kernel, rfl, by decide +kernel, by decide +kernel⟩
abbrev n_read_if : List Str := ["reader", "condition", "first", "second"]
abbrev a_read_if : List Str := ["reader"]
theorem sc_read_if : FnScope n_read_if a_read_if (defScope s_read_if) := ⟨rfl, rfl, rfl, by decide +kernel, rfl, by decide +kernel, by decide +kernel⟩
abbrev n_read_call : List Str := ["reader", "name", "values", "target"]
abbrev a_read_call : List Str := ["reader"]
theorem sc_read_call : FnScope n_read_call a_read_call (defScope s_read_call) := ⟨rfl, rfl, rfl, by decide +kernel, rfl, by decide +kernel, by decide +kernel⟩
abbrev n_read_expression : List Str := ["reader", "left", "sign", "right"]
abbrev a_read_expression : List Str := ["reader"]
theorem sc_read_expression : FnScope n_read_expression a_read_expression (defScope s_read_expression) := ⟨rfl, rfl, rfl, by decide +kernel, rfl, by decide +kernel, by decide +kernel⟩
abbrev n_read_number : List Str := ["reader", "value"]
abbrev a_read_number : List Str := ["reader"]
theorem sc_read_number : FnScope n_read_number a_read_number (defScope s_read_number) := ⟨rfl, rfl, rfl, by decide +kernel, rfl, by decide +kernel, by decide +kernel⟩
abbrev n_read_condition : List Str := ["reader", "left", "word", "right", "relation"]
abbrev a_read_condition : List Str := ["reader"]
theorem sc_read_condition : FnScope n_read_condition a_read_condition (defScope s_read_condition) := ⟨rfl, rfl, rfl, by decide +kernel, rfl, by decide +kernel, by decide +kernel⟩
abbrev n__law_next : List Str := ["_law_state", "_law_script", "_law_many", "_law_answer", "_law_cell"]
abbrev a__law_next : List Str := ["_law_state", "_law_script", "_law_many"]
theorem sc__law_next : FnScope n__law_next a__law_next (defScope s__law_next) := ⟨rfl, rfl, rfl, by decide +kernel, rfl, by decide +kernel, by decide +kernel⟩
abbrev n__law_same : List Str := ["_law_actual", "_law_due", "_law_k"]
abbrev a__law_same : List Str := ["_law_actual", "_law_due"]
theorem sc__law_same : FnScope n__law_same a__law_same (defScope s__law_same) := ⟨rfl, rfl, rfl, by decide +kernel, rfl, by decide +kernel, by decide +kernel⟩
abbrev n__law_word : List Str := ["_law_state", "_law_script", "_law_letters", "_law_signs", "_law_many", "_law_word_here", "_law_k"]
abbrev a__law_word : List Str := ["_law_state", "_law_script"]
theorem sc__law_word : FnScope n__law_word a__law_word (defScope s__law_word) := ⟨rfl, rfl, rfl, by decide +kernel, rfl, by decide +kernel, by decide +kernel⟩
abbrev n__law_reserved : List Str := ["_law_words"]
abbrev a__law_reserved : List Str := []
theorem sc__law_reserved : FnScope n__law_reserved a__law_reserved (defScope s__law_reserved) := ⟨rfl, rfl, rfl, by decide +kernel, rfl, by decide +kernel, by decide +kernel⟩
abbrev n__law_name : List Str := ["_law_state", "_law_script", "_law_word_here"]
abbrev a__law_name : List Str := ["_law_state", "_law_script"]
theorem sc__law_name : FnScope n__law_name a__law_name (defScope s__law_name) := ⟨rfl, rfl, rfl, by decide +kernel, rfl, by decide +kernel, by decide +kernel⟩
abbrev n__law_any_expression : List Str := ["_law_state", "_law_script", "_law_depth", "_law_choice", "_law_left", "_law_sign_here"]
abbrev a__law_any_expression : List Str := ["_law_state", "_law_script", "_law_depth"]
theorem sc__law_any_expression : FnScope n__law_any_expression a__law_any_expression (defScope s__law_any_expression) := ⟨rfl, rfl, rfl, by decide +kernel, rfl, by decide +kernel, by decide +kernel⟩
abbrev n__law_any_condition : List Str := ["_law_state", "_law_script", "_law_depth", "_law_choice", "_law_left"]
abbrev a__law_any_condition : List Str := ["_law_state", "_law_script", "_law_depth"]
theorem sc__law_any_condition : FnScope n__law_any_condition a__law_any_condition (defScope s__law_any_condition) := ⟨rfl, rfl, rfl, by decide +kernel, rfl, by decide +kernel, by decide +kernel⟩
abbrev n__law_any_call : List Str := ["_law_state", "_law_script", "_law_values", "_law_name_here", "_law_k"]
abbrev a__law_any_call : List Str := ["_law_state", "_law_script"]
theorem sc__law_any_call : FnScope n__law_any_call a__law_any_call (defScope s__law_any_call) := ⟨rfl, rfl, rfl, by decide +kernel, rfl, by decide +kernel, by decide +kernel⟩
abbrev n__law_any_statement : List Str := ["_law_state", "_law_script", "_law_depth", "_law_choice", "_law_condition", "_law_first"]
abbrev a__law_any_statement : List Str := ["_law_state", "_law_script", "_law_depth"]
theorem sc__law_any_statement : FnScope n__law_any_statement a__law_any_statement (defScope s__law_any_statement) := ⟨rfl, rfl, rfl, by decide +kernel, rfl, by decide +kernel, by decide +kernel⟩
abbrev n__law_any_block : List Str := ["_law_state", "_law_script", "_law_depth", "_law_block", "_law_k"]
abbrev a__law_any_block : List Str := ["_law_state", "_law_script", "_law_depth"]
theorem sc__law_any_block : FnScope n__law_any_block a__law_any_block (defScope s__law_any_block) := ⟨rfl, rfl, rfl, by decide +kernel, rfl, by decide +kernel, by decide +kernel⟩
abbrev n__law_any_program : List Str := ["_law_state", "_law_script", "_law_most", "_law_k", "_law_names", "_law_procedures", "_law_name_here", "_law_parameters", "_law_block", "_law_j"]
abbrev a__law_any_program : List Str := ["_law_state", "_law_script"]
theorem sc__law_any_program : FnScope n__law_any_program a__law_any_program (defScope s__law_any_program) := ⟨rfl, rfl, rfl, by decide +kernel, rfl, by decide +kernel, by decide +kernel⟩
abbrev n__law_listed : List Str := ["_law_rows", "_law_found", "_law_k"]
abbrev a__law_listed : List Str := ["_law_rows"]
theorem sc__law_listed : FnScope n__law_listed a__law_listed (defScope s__law_listed) := ⟨rfl, rfl, rfl, by decide +kernel, rfl, by decide +kernel, by decide +kernel⟩
abbrev n__law_expression_words : List Str := ["_law_expression"]
abbrev a__law_expression_words : List Str := ["_law_expression"]
theorem sc__law_expression_words : FnScope n__law_expression_words a__law_expression_words (defScope s__law_expression_words) := ⟨rfl, rfl, rfl, by decide +kernel, rfl, by decide +kernel, by decide +kernel⟩
abbrev n__law_condition_words : List Str := ["_law_condition"]
abbrev a__law_condition_words : List Str := ["_law_condition"]
theorem sc__law_condition_words : FnScope n__law_condition_words a__law_condition_words (defScope s__law_condition_words) := ⟨rfl, rfl, rfl, by decide +kernel, rfl, by decide +kernel, by decide +kernel⟩
abbrev n__law_statement_words : List Str := ["_law_statement", "_law_word_here", "_law_words", "_law_value"]
abbrev a__law_statement_words : List Str := ["_law_statement"]
theorem sc__law_statement_words : FnScope n__law_statement_words a__law_statement_words (defScope s__law_statement_words) := ⟨rfl, rfl, rfl, by decide +kernel, rfl, by decide +kernel, by decide +kernel⟩
abbrev n__law_block_words : List Str := ["_law_block", "_law_words", "_law_statement"]
abbrev a__law_block_words : List Str := ["_law_block"]
theorem sc__law_block_words : FnScope n__law_block_words a__law_block_words (defScope s__law_block_words) := ⟨rfl, rfl, rfl, by decide +kernel, rfl, by decide +kernel, by decide +kernel⟩
abbrev n__law_program_words : List Str := ["_law_program", "_law_words", "_law_name_here", "_law_parameters", "_law_block", "_law_one"]
abbrev a__law_program_words : List Str := ["_law_program"]
theorem sc__law_program_words : FnScope n__law_program_words a__law_program_words (defScope s__law_program_words) := ⟨rfl, rfl, rfl, by decide +kernel, rfl, by decide +kernel, by decide +kernel⟩
abbrev n__law_gap : List Str := ["_law_before", "_law_first", "_law_second"]
abbrev a__law_gap : List Str := ["_law_before", "_law_first", "_law_second"]
theorem sc__law_gap : FnScope n__law_gap a__law_gap (defScope s__law_gap) := ⟨rfl, rfl, rfl, by decide +kernel, rfl, by decide +kernel, by decide +kernel⟩
abbrev n__law_sign : List Str := ["_law_before"]
abbrev a__law_sign : List Str := ["_law_before"]
theorem sc__law_sign : FnScope n__law_sign a__law_sign (defScope s__law_sign) := ⟨rfl, rfl, rfl, by decide +kernel, rfl, by decide +kernel, by decide +kernel⟩
abbrev n__law_line : List Str := ["_law_words", "_law_text_here", "_law_k", "_law_before"]
abbrev a__law_line : List Str := ["_law_words"]
theorem sc__law_line : FnScope n__law_line a__law_line (defScope s__law_line) := ⟨rfl, rfl, rfl, by decide +kernel, rfl, by decide +kernel, by decide +kernel⟩
abbrev n__law_text : List Str := ["_law_words", "_law_text_here", "_law_depth", "_law_line_here", "_law_k", "_law_word_here", "_law_follows", "_law_ends", "_law_inner"]
abbrev a__law_text : List Str := ["_law_words"]
theorem sc__law_text : FnScope n__law_text a__law_text (defScope s__law_text) := ⟨rfl, rfl, rfl, by decide +kernel, rfl, by decide +kernel, by decide +kernel⟩
abbrev n_law : List Str := ["_law_script", "_law_state", "_law_k", "_law_program", "_law_words", "_law_kept", "_law_text_here", "_law_token"]
abbrev a_law : List Str := ["_law_script"]
theorem sc_law : FnScope n_law a_law (defScope s_law) := ⟨rfl, rfl, rfl, by decide +kernel, rfl, by decide +kernel, by decide +kernel⟩
end Cc
namespace Cc
open PySem PySem.Spec PyProof.Rows L2
abbrev n_Reader_fail : List Str := ["self"]
abbrev a_Reader_fail : List Str := ["self"]
theorem sc_Reader_fail : FnScope n_Reader_fail a_Reader_fail (defScope s_Reader_fail) := ⟨rfl, rfl, rfl, by decide +kernel, rfl, by decide +kernel, by decide +kernel⟩
end Cc
end
section
namespace Cc
open PySem PySem.Spec PyProof.Rows L2
theorem de_write {P : Program} {w : World} {K : PySem.W.Frag} {mg : Str → Option Value} {base : Heap} {k : Nat} {f : Addr} {cdv : Value} {A : Around} {outer : List Env} {s : Shared} {H : Hp} {E : XK} {p_block_lines : Sp} (T : GF K mg) (hr : Room k (A.deeper (envOfC "write" (defScope s_write) s.heap.objs.size f cdv))) (h_block_lines : Has P w K mg base k "block_lines" a_block_lines p_block_lines) :
    PSs (cxOf CX0 P w K mg base n_write "write" (defScope s_write) f cdv A outer s H E).nox (defBody s_write) (t_write K p_block_lines) := by
  obtain ⟨fd_block_lines, G_block_lines, b_block_lines, k_block_lines, m_block_lines⟩ := h_block_lines
  exact (pss_cons (ps_asg (pv 0) (pg_tup rfl (pgs_cons (pg_name (i := 1) (sc_write).nd rfl (Or.inl rfl)) (pgs_cons (pg_name (i := 2) (sc_write).nd rfl (Or.inl rfl)) pgs_nil))))
    (pss_cons (ps_setLc (i := 4) (own := [("name", 3)]) (g := gName 3) (tt := tYes) rfl (sc_write).nd rfl rfl (sw_true rfl rfl rfl (by decide +kernel)) (pi_tup (pv 1)) (blkOk_by (own := [("name", 3)]) (N := n_write) (sc := defScope s_write) (by decide +kernel)) (fun _ _ _ _ _ => pg_name (i := 3) (sc_write).nd rfl (Or.inl rfl)) (fun _ _ _ _ _ => pts_nil) (fun _ _ _ _ _ => (pe_joined (.cons (pe_lit l1) (.cons (pe_fmt (pv 3)) (.cons (pe_lit l0) .nil))))))
    (pss_cons (ps_for PassesOwn.never rfl (pi_tup (pv 2)) (pg_tup rfl (pgs_cons (pg_name (i := 3) (sc_write).nd rfl (Or.inl rfl)) (pgs_cons (pg_name (i := 5) (sc_write).nd rfl (Or.inl rfl)) (pgs_cons (pg_name (i := 6) (sc_write).nd rfl (Or.inl rfl)) pgs_nil)))) (pss_cons (ps_expr (pe_bm PySem.F.plainAttrs_list PySem.F.slot_list_append PySem.F.type_list_append mt_append (pv 4) (pa_cons (pe_op op_add_str (pe_op op_add_str (pe_op op_add_str (pe_op op_add_str (pe_lit l2) (pv 3)) (pe_lit l3)) (pe_join (pe_lit l4) (pv 5))) (pe_lit l5)) pa_nil)))
    (pss_cons (ps_expr (pe_bm PySem.F.plainAttrs_list PySem.F.slot_list_extend PySem.F.type_list_extend mt_extend (pv 4) (pa_cons (pe_call G_block_lines hr rfl m_block_lines k_block_lines b_block_lines .nil pass0 (pa_cons (pv 6) (pa_cons (pe_lit l6) pa_nil))) pa_nil)))
    (pss_one (ps_expr (pe_bm PySem.F.plainAttrs_list PySem.F.slot_list_append PySem.F.type_list_append mt_append (pv 4) (pa_cons (pe_lit l7) pa_nil)))))))
    (pss_one (ps_ret (pe_join (pe_lit l8) (pe_lc (own := [("line", 7)]) (g := gName 7) (tt := tYes) rfl (sc_write).nd (pi_list (pv 4)) (blkOk_by (own := [("line", 7)]) (N := n_write) (sc := defScope s_write) (by decide +kernel)) (fun _ _ _ _ _ => pg_name (i := 7) (sc_write).nd rfl (Or.inl rfl)) (fun _ _ _ _ _ => pts_nil) (fun _ _ _ _ _ => (pe_op op_add_str (pv 7) (pe_lit l9))))))))))
theorem ok_write {P : Program} {w : World} {K : PySem.W.Frag} {mg : Str → Option Value} {base : Heap} {k : Nat} {p_block_lines : Sp} {sp : Sp} (T : GF K mg) (F : ∃ fd, FunD K "write" "write" (defArgs s_write) (defBody s_write) (defScope s_write) [] [] (He.ga K "write") fd) (m : mg "write" = some (.ref (He.ga K "write"))) (h_block_lines : Has P w K mg base k "block_lines" a_block_lines p_block_lines)
    (len : ∀ vs H Q E, sp vs H Q E → vs.length = (a_write).length) (pure_ : ∀ vs H Q E, sp vs H Q E → t_write K p_block_lines { nx := fun _ H' => Q .non H', rt := Q } (start n_write vs) H) :
    Has P w K mg base (k + 1) "write" a_write sp := by
  obtain ⟨fd, F⟩ := F
  exact ⟨fd, FunD.ok F sc_write len fun cdv A outer s H vs Q E hr h => ⟨t_write K p_block_lines, PSs.nox (de_write T hr h_block_lines), pure_ vs H Q E h⟩, FunD.bindsN F (ps := a_write) (fun _ _ _ _ _ _ us hl => match us, hl with | [_], _ => rfl), F.kp, m⟩
theorem de_tokens {P : Program} {w : World} {K : PySem.W.Frag} {mg : Str → Option Value} {base : Heap} {k : Nat} {f : Addr} {cdv : Value} {A : Around} {outer : List Env} {s : Shared} {H : Hp} {E : XK} {p_token_at : Sp} (T : GF K mg) (hr : Room k (A.deeper (envOfC "tokens" (defScope s_tokens) s.heap.objs.size f cdv))) (h_token_at : Has P w K mg base k "token_at" a_token_at p_token_at) :
    PSs (cxOf CX0 P w K mg base n_tokens "tokens" (defScope s_tokens) f cdv A outer s H E).nox (defBody s_tokens) (t_tokens K p_token_at) := by
  obtain ⟨fd_token_at, G_token_at, b_token_at, k_token_at, m_token_at⟩ := h_token_at
  exact (pss_cons (ps_set (i := 1) (sc_tokens).nd rfl (Or.inl rfl) (pe_lst pa_nil))
    (pss_cons (ps_set (i := 2) (sc_tokens).nd rfl (Or.inl rfl) pe_int)
    (pss_cons (ps_set (i := 3) (sc_tokens).nd rfl (Or.inl rfl) pe_int)
    (pss_cons (ps_set (i := 4) (sc_tokens).nd rfl (Or.inl rfl) pe_int)
    (pss_cons (ps_while PassesOwn.never (pt_cmpR op_lt (pv 2) (pe_callB call_len_str rfl T.len boot_len (pa_cons (pv 0) pa_nil)) (nomark _)) (pss_cons (ps_set (i := 5) (sc_tokens).nd rfl (Or.inl rfl) (pe_ix ix_str (pv 0) (pv 2) (fun _ _ => rfl)))
    (pss_one (ps_if (pt_cmpR op_eq (pv 5) (pe_lit l9) (nomark _)) (pss_cons (ps_set (i := 3) (sc_tokens).nd rfl (Or.inl rfl) (pe_op op_add (pv 3) pe_int))
    (pss_cons (ps_set (i := 4) (sc_tokens).nd rfl (Or.inl rfl) (pe_op op_add (pv 2) pe_int))
    (pss_one (ps_set (i := 2) (sc_tokens).nd rfl (Or.inl rfl) (pe_op op_add (pv 2) pe_int))))) (pss_one (ps_if (pt_cmpR op_eq (pv 5) (pe_lit l22) (nomark _)) (pss_one (ps_set (i := 2) (sc_tokens).nd rfl (Or.inl rfl) (pe_op op_add (pv 2) pe_int))) (pss_cons (ps_asg (pe_call G_token_at hr rfl m_token_at k_token_at b_token_at .nil pass0 (pa_cons (pv 0) (pa_cons (pv 2) pa_nil))) (pg_tup rfl (pgs_cons (pg_name (i := 6) (sc_tokens).nd rfl (Or.inl rfl)) (pgs_cons (pg_name (i := 7) (sc_tokens).nd rfl (Or.inl rfl)) (pgs_cons (pg_name (i := 8) (sc_tokens).nd rfl (Or.inl rfl)) pgs_nil)))))
    (pss_cons (ps_expr (pe_bm PySem.F.plainAttrs_list PySem.F.slot_list_append PySem.F.type_list_append mt_append (pv 1) (pa_cons (pe_tup (pa_cons (pv 6) (pa_cons (pv 7) (pa_cons (pv 3) (pa_cons (pe_op op_add (pe_op op_sub (pv 2) (pv 4)) pe_int) pa_nil))))) pa_nil)))
    (pss_cons (ps_if (pt_cmpR op_eq (pv 6) (pe_lit l34) (nomark _)) (pss_one (ps_ret (pe_callTy call_tuple_of rfl T.tuple_ (by decide +kernel) (pa_cons (pv 1) pa_nil)))) pss_nil)
    (pss_one (ps_set (i := 2) (sc_tokens).nd rfl (Or.inl rfl) (pv 8))))))))))))
    (pss_one (ps_ret (pe_callTy call_tuple_of rfl T.tuple_ (by decide +kernel) (pa_cons (pv 1) pa_nil)))))))))
theorem ok_tokens {P : Program} {w : World} {K : PySem.W.Frag} {mg : Str → Option Value} {base : Heap} {k : Nat} {p_token_at : Sp} {sp : Sp} (T : GF K mg) (F : ∃ fd, FunD K "tokens" "tokens" (defArgs s_tokens) (defBody s_tokens) (defScope s_tokens) [] [] (He.ga K "tokens") fd) (m : mg "tokens" = some (.ref (He.ga K "tokens"))) (h_token_at : Has P w K mg base k "token_at" a_token_at p_token_at)
    (len : ∀ vs H Q E, sp vs H Q E → vs.length = (a_tokens).length) (pure_ : ∀ vs H Q E, sp vs H Q E → t_tokens K p_token_at { nx := fun _ H' => Q .non H', rt := Q } (start n_tokens vs) H) :
    Has P w K mg base (k + 1) "tokens" a_tokens sp := by
  obtain ⟨fd, F⟩ := F
  exact ⟨fd, FunD.ok F sc_tokens len fun cdv A outer s H vs Q E hr h => ⟨t_tokens K p_token_at, PSs.nox (de_tokens T hr h_token_at), pure_ vs H Q E h⟩, FunD.bindsN F (ps := a_tokens) (fun _ _ _ _ _ _ us hl => match us, hl with | [_], _ => rfl), F.kp, m⟩
theorem de_Reader_kind {P : Program} {w : World} {K : PySem.W.Frag} {mg : Str → Option Value} {base : Heap} {k : Nat} {f : Addr} {cdv : Value} {A : Around} {outer : List Env} {s : Shared} {H : Hp} {E : XK} (T : GF K mg) (hr : Room k (A.deeper (envOfC "Reader.kind" (defScope s_Reader_kind) s.heap.objs.size f cdv))) :
    PSs (cxOf CX0 P w K mg base n_Reader_kind "Reader.kind" (defScope s_Reader_kind) f cdv A outer s H E).nox (defBody s_Reader_kind) (t_Reader_kind K ) := by
  exact (pss_one (ps_ret (pe_ifExp (pt_cmpR op_lt (pe_fld (pv 0) rfl) (pe_callB call_len_seq rfl T.len boot_len (pa_cons (pe_fld (pv 0) rfl) pa_nil)) (nomark _)) (pe_ix ix_tup (pe_ix ix_tup (pe_fld (pv 0) rfl) (pe_fld (pv 0) rfl) (fun _ _ => rfl)) pe_int (fun _ _ => rfl)) (pe_lit l8))))
theorem ok_Reader_kind {P : Program} {w : World} {K : PySem.W.Frag} {mg : Str → Option Value} {base : Heap} {k : Nat} {sp : Sp} (T : GF K mg) (F : ∃ fd, FunD K "kind" "Reader.kind" (defArgs s_Reader_kind) (defBody s_Reader_kind) (defScope s_Reader_kind) [] [] (He.ma K (He.ga K "Reader") "kind") fd) (M : Meth K (He.ga K "Reader") "kind" (He.ma K (He.ga K "Reader") "kind"))
    (len : ∀ vs H Q E, sp vs H Q E → vs.length = (a_Reader_kind).length) (pure_ : ∀ vs H Q E, sp vs H Q E → t_Reader_kind K  { nx := fun _ H' => Q .non H', rt := Q } (start n_Reader_kind vs) H) :
    HasM P w K mg base (k + 1) "kind" a_Reader_kind sp := by
  obtain ⟨fd, F⟩ := F
  exact ⟨fd, FunD.ok F sc_Reader_kind len fun cdv A outer s H vs Q E hr h => ⟨t_Reader_kind K , PSs.nox (de_Reader_kind T hr), pure_ vs H Q E h⟩, FunD.bindsN F (ps := a_Reader_kind) (fun _ _ _ _ _ _ us hl => match us, hl with | [_], _ => rfl), M⟩
theorem de_Reader_need_word {P : Program} {w : World} {K : PySem.W.Frag} {mg : Str → Option Value} {base : Heap} {k : Nat} {f : Addr} {cdv : Value} {A : Around} {outer : List Env} {s : Shared} {H : Hp} {E : XK} {p_is_word p_fail p_step : Sp} (T : GF K mg) (hr : Room k (A.deeper (envOfC "Reader.need_word" (defScope s_Reader_need_word) s.heap.objs.size f cdv))) (h_is_word : HasM P w K mg base k "is_word" a_Reader_is_word p_is_word) (h_fail : HasM P w K mg base k "fail" a_Reader_fail p_fail) (h_step : HasM P w K mg base k "step" a_Reader_step p_step) :
    PSs (cxOf CX0 P w K mg base n_Reader_need_word "Reader.need_word" (defScope s_Reader_need_word) f cdv A outer s H E).nox (defBody s_Reader_need_word) (t_Reader_need_word K p_is_word p_fail p_step) := by
  obtain ⟨fd_is_word, G_is_word, b_is_word, M_is_word⟩ := h_is_word
  obtain ⟨fd_fail, G_fail, b_fail, M_fail⟩ := h_fail
  obtain ⟨fd_step, G_step, b_step, M_step⟩ := h_step
  exact (pss_cons (ps_if (pt_not (pt_val (pe_meth (pv 0) T.clR M_is_word G_is_word hr b_is_word .nil pass0 (pa_cons (pv 1) pa_nil)))) (pss_one (ps_expr (pe_meth0 (pv 0) T.clR M_fail G_fail hr b_fail .nil pass0))) pss_nil)
    (pss_one (ps_expr (pe_meth0 (pv 0) T.clR M_step G_step hr b_step .nil pass0))))
theorem ok_Reader_need_word {P : Program} {w : World} {K : PySem.W.Frag} {mg : Str → Option Value} {base : Heap} {k : Nat} {p_is_word p_fail p_step : Sp} {sp : Sp} (T : GF K mg) (F : ∃ fd, FunD K "need_word" "Reader.need_word" (defArgs s_Reader_need_word) (defBody s_Reader_need_word) (defScope s_Reader_need_word) [] [] (He.ma K (He.ga K "Reader") "need_word") fd) (M : Meth K (He.ga K "Reader") "need_word" (He.ma K (He.ga K "Reader") "need_word")) (h_is_word : HasM P w K mg base k "is_word" a_Reader_is_word p_is_word) (h_fail : HasM P w K mg base k "fail" a_Reader_fail p_fail) (h_step : HasM P w K mg base k "step" a_Reader_step p_step)
    (len : ∀ vs H Q E, sp vs H Q E → vs.length = (a_Reader_need_word).length) (pure_ : ∀ vs H Q E, sp vs H Q E → t_Reader_need_word K p_is_word p_fail p_step { nx := fun _ H' => Q .non H', rt := Q } (start n_Reader_need_word vs) H) :
    HasM P w K mg base (k + 1) "need_word" a_Reader_need_word sp := by
  obtain ⟨fd, F⟩ := F
  exact ⟨fd, FunD.ok F sc_Reader_need_word len fun cdv A outer s H vs Q E hr h => ⟨t_Reader_need_word K p_is_word p_fail p_step, PSs.nox (de_Reader_need_word T hr h_is_word h_fail h_step), pure_ vs H Q E h⟩, FunD.bindsN F (ps := a_Reader_need_word) (fun _ _ _ _ _ _ us hl => match us, hl with | [_, _], _ => rfl), M⟩
theorem de_read_if {P : Program} {w : World} {K : PySem.W.Frag} {mg : Str → Option Value} {base : Heap} {k : Nat} {f : Addr} {cdv : Value} {A : Around} {outer : List Env} {s : Shared} {H : Hp} {E : XK} {p_read_condition p_read_block p_step p_is_word : Sp} (T : GF K mg) (hr : Room k (A.deeper (envOfC "read_if" (defScope s_read_if) s.heap.objs.size f cdv))) (h_read_condition : Has P w K mg base k "read_condition" a_read_condition p_read_condition) (h_read_block : Has P w K mg base k "read_block" a_read_block p_read_block) (h_step : HasM P w K mg base k "step" a_Reader_step p_step) (h_is_word : HasM P w K mg base k "is_word" a_Reader_is_word p_is_word) :
    PSs (cxOf CX0 P w K mg base n_read_if "read_if" (defScope s_read_if) f cdv A outer s H E).nox (defBody s_read_if) (t_read_if K p_read_condition p_read_block p_step p_is_word) := by
  obtain ⟨fd_read_condition, G_read_condition, b_read_condition, k_read_condition, m_read_condition⟩ := h_read_condition
  obtain ⟨fd_read_block, G_read_block, b_read_block, k_read_block, m_read_block⟩ := h_read_block
  obtain ⟨fd_step, G_step, b_step, M_step⟩ := h_step
  obtain ⟨fd_is_word, G_is_word, b_is_word, M_is_word⟩ := h_is_word
  exact (pss_cons (ps_expr (pe_meth0 (pv 0) T.clR M_step G_step hr b_step .nil pass0))
    (pss_cons (ps_set (i := 1) (sc_read_if).nd rfl (Or.inl rfl) (pe_call G_read_condition hr rfl m_read_condition k_read_condition b_read_condition .nil pass0 (pa_cons (pv 0) pa_nil)))
    (pss_cons (ps_set (i := 2) (sc_read_if).nd rfl (Or.inl rfl) (pe_call G_read_block hr rfl m_read_block k_read_block b_read_block .nil pass0 (pa_cons (pv 0) pa_nil)))
    (pss_cons (ps_set (i := 3) (sc_read_if).nd rfl (Or.inl rfl) (pe_tup pa_nil))
    (pss_cons (ps_if (pt_val (pe_meth (pv 0) T.clR M_is_word G_is_word hr b_is_word .nil pass0 (pa_cons (pe_lit l45) pa_nil))) (pss_cons (ps_expr (pe_meth0 (pv 0) T.clR M_step G_step hr b_step .nil pass0))
    (pss_one (ps_set (i := 3) (sc_read_if).nd rfl (Or.inl rfl) (pe_call G_read_block hr rfl m_read_block k_read_block b_read_block .nil pass0 (pa_cons (pv 0) pa_nil))))) pss_nil)
    (pss_one (ps_ret (pe_tup (pa_cons (pe_lit l10) (pa_cons (pv 1) (pa_cons (pv 2) (pa_cons (pv 3) pa_nil))))))))))))
theorem ok_read_if {P : Program} {w : World} {K : PySem.W.Frag} {mg : Str → Option Value} {base : Heap} {k : Nat} {p_read_condition p_read_block p_step p_is_word : Sp} {sp : Sp} (T : GF K mg) (F : ∃ fd, FunD K "read_if" "read_if" (defArgs s_read_if) (defBody s_read_if) (defScope s_read_if) [] [] (He.ga K "read_if") fd) (m : mg "read_if" = some (.ref (He.ga K "read_if"))) (h_read_condition : Has P w K mg base k "read_condition" a_read_condition p_read_condition) (h_read_block : Has P w K mg base k "read_block" a_read_block p_read_block) (h_step : HasM P w K mg base k "step" a_Reader_step p_step) (h_is_word : HasM P w K mg base k "is_word" a_Reader_is_word p_is_word)
    (len : ∀ vs H Q E, sp vs H Q E → vs.length = (a_read_if).length) (pure_ : ∀ vs H Q E, sp vs H Q E → t_read_if K p_read_condition p_read_block p_step p_is_word { nx := fun _ H' => Q .non H', rt := Q } (start n_read_if vs) H) :
    Has P w K mg base (k + 1) "read_if" a_read_if sp := by
  obtain ⟨fd, F⟩ := F
  exact ⟨fd, FunD.ok F sc_read_if len fun cdv A outer s H vs Q E hr h => ⟨t_read_if K p_read_condition p_read_block p_step p_is_word, PSs.nox (de_read_if T hr h_read_condition h_read_block h_step h_is_word), pure_ vs H Q E h⟩, FunD.bindsN F (ps := a_read_if) (fun _ _ _ _ _ _ us hl => match us, hl with | [_], _ => rfl), F.kp, m⟩
theorem de__law_same {P : Program} {w : World} {K : PySem.W.Frag} {mg : Str → Option Value} {base : Heap} {k : Nat} {f : Addr} {cdv : Value} {A : Around} {outer : List Env} {s : Shared} {H : Hp} {E : XK} {p__law_same : Sp} (T : GF K mg) (hr : Room k (A.deeper (envOfC "_law_same" (defScope s__law_same) s.heap.objs.size f cdv))) (h__law_same : Has P w K mg base k "_law_same" a__law_same p__law_same) :
    PSs (cxOf CX0 P w K mg base n__law_same "_law_same" (defScope s__law_same) f cdv A outer s H E).nox (defBody s__law_same) (t__law_same K p__law_same) := by
  obtain ⟨fd__law_same, G__law_same, b__law_same, k__law_same, m__law_same⟩ := h__law_same
  exact (pss_cons (ps_if (pt_cmpR op_isN (pv 1) pe_non (nomark _)) (pss_one (ps_ret (pe_cmpR op_isN (pv 0) pe_non (nomark _)))) pss_nil)
    (pss_cons (ps_if (pt_val (pe_callB call_isi rfl T.isinstance_ (by decide +kernel) (pa_cons (pv 1) (pa_cons (pe_bltn rfl T.tuple_ (by decide +kernel) rfl) pa_nil)))) (pss_cons (ps_if (PW.pt (pw_or (pt_not (pt_val (pe_callB call_isi rfl T.isinstance_ (by decide +kernel) (pa_cons (pv 0) (pa_cons (pe_bltn rfl T.tuple_ (by decide +kernel) rfl) pa_nil))))) (pw_or1 (pt_cmpR op_ne (pe_callB call_len_seq rfl T.len boot_len (pa_cons (pv 0) pa_nil)) (pe_callB call_len_seq rfl T.len boot_len (pa_cons (pv 1) pa_nil)) (nomark _))))) (pss_one (ps_ret pe_bl)) pss_nil)
    (pss_cons (ps_for PassesOwn.never rfl (pi_range1 rfl T.range (pa_cons (pe_callB call_len_seq rfl T.len boot_len (pa_cons (pv 1) pa_nil)) pa_nil)) (pg_name (i := 2) (sc__law_same).nd rfl (Or.inl rfl)) (pss_one (ps_if (pt_not (pt_val (pe_call G__law_same hr rfl m__law_same k__law_same b__law_same .nil pass0 (pa_cons (pe_ix ix_tup (pv 0) (pv 2) (fun _ _ => rfl)) (pa_cons (pe_ix ix_tup (pv 1) (pv 2) (fun _ _ => rfl)) pa_nil))))) (pss_one (ps_ret pe_bl)) pss_nil)))
    (pss_one (ps_ret pe_bl)))) pss_nil)
    (pss_cons (ps_if (pt_val (pe_callB call_isi rfl T.isinstance_ (by decide +kernel) (pa_cons (pv 1) (pa_cons (pe_bltn rfl T.bool_ (by decide +kernel) rfl) pa_nil)))) (pss_one (ps_ret (pe_and (pe_callB call_isi rfl T.isinstance_ (by decide +kernel) (pa_cons (pv 0) (pa_cons (pe_bltn rfl T.bool_ (by decide +kernel) rfl) pa_nil))) (pe_one (pe_cmpR (op_eqD hr.units) (pv 0) (pv 1) (nomark _)))))) pss_nil)
    (pss_cons (ps_if (pt_val (pe_callB call_isi rfl T.isinstance_ (by decide +kernel) (pa_cons (pv 1) (pa_cons (pe_bltn rfl T.int_ (by decide +kernel) rfl) pa_nil)))) (pss_one (ps_ret (pe_and (pe_callB call_isi rfl T.isinstance_ (by decide +kernel) (pa_cons (pv 0) (pa_cons (pe_bltn rfl T.int_ (by decide +kernel) rfl) pa_nil))) (pe_and (pe_not (pe_callB call_isi rfl T.isinstance_ (by decide +kernel) (pa_cons (pv 0) (pa_cons (pe_bltn rfl T.bool_ (by decide +kernel) rfl) pa_nil)))) (pe_one (pe_cmpR (op_eqD hr.units) (pv 0) (pv 1) (nomark _))))))) pss_nil)
    (pss_one (ps_ret (pe_and (pe_callB call_isi rfl T.isinstance_ (by decide +kernel) (pa_cons (pv 0) (pa_cons (pe_bltn rfl T.str_ (by decide +kernel) rfl) pa_nil))) (pe_one (pe_cmpR (op_eqD hr.units) (pv 0) (pv 1) (nomark _))))))))))
theorem ok__law_same {P : Program} {w : World} {K : PySem.W.Frag} {mg : Str → Option Value} {base : Heap} {k : Nat} {p__law_same : Sp} {sp : Sp} (T : GF K mg) (F : ∃ fd, FunD K "_law_same" "_law_same" (defArgs s__law_same) (defBody s__law_same) (defScope s__law_same) [] [] (He.ga K "_law_same") fd) (m : mg "_law_same" = some (.ref (He.ga K "_law_same"))) (h__law_same : Has P w K mg base k "_law_same" a__law_same p__law_same)
    (len : ∀ vs H Q E, sp vs H Q E → vs.length = (a__law_same).length) (pure_ : ∀ vs H Q E, sp vs H Q E → t__law_same K p__law_same { nx := fun _ H' => Q .non H', rt := Q } (start n__law_same vs) H) :
    Has P w K mg base (k + 1) "_law_same" a__law_same sp := by
  obtain ⟨fd, F⟩ := F
  exact ⟨fd, FunD.ok F sc__law_same len fun cdv A outer s H vs Q E hr h => ⟨t__law_same K p__law_same, PSs.nox (de__law_same T hr h__law_same), pure_ vs H Q E h⟩, FunD.bindsN F (ps := a__law_same) (fun _ _ _ _ _ _ us hl => match us, hl with | [_, _], _ => rfl), F.kp, m⟩
theorem de__law_any_call {P : Program} {w : World} {K : PySem.W.Frag} {mg : Str → Option Value} {base : Heap} {k : Nat} {f : Addr} {cdv : Value} {A : Around} {outer : List Env} {s : Shared} {H : Hp} {E : XK} {p__law_next p__law_any_expression p__law_name : Sp} (T : GF K mg) (hr : Room k (A.deeper (envOfC "_law_any_call" (defScope s__law_any_call) s.heap.objs.size f cdv))) (h__law_next : Has P w K mg base k "_law_next" a__law_next p__law_next) (h__law_any_expression : Has P w K mg base k "_law_any_expression" a__law_any_expression p__law_any_expression) (h__law_name : Has P w K mg base k "_law_name" a__law_name p__law_name) :
    PSs (cxOf CX0 P w K mg base n__law_any_call "_law_any_call" (defScope s__law_any_call) f cdv A outer s H E).nox (defBody s__law_any_call) (t__law_any_call K p__law_next p__law_any_expression p__law_name) := by
  obtain ⟨fd__law_next, G__law_next, b__law_next, k__law_next, m__law_next⟩ := h__law_next
  obtain ⟨fd__law_any_expression, G__law_any_expression, b__law_any_expression, k__law_any_expression, m__law_any_expression⟩ := h__law_any_expression
  obtain ⟨fd__law_name, G__law_name, b__law_name, k__law_name, m__law_name⟩ := h__law_name
  exact (pss_cons (ps_set (i := 2) (sc__law_any_call).nd rfl (Or.inl rfl) (pe_callTy call_tuple_of rfl T.tuple_ (by decide +kernel) (pa_cons (pe_lc (own := [("_law_k", 4)]) (g := gName 4) (tt := tYes) rfl (sc__law_any_call).nd (pi_range1 rfl T.range (pa_cons (pe_call G__law_next hr rfl m__law_next k__law_next b__law_next .nil pass0 (pa_cons (pv 0) (pa_cons (pv 1) (pa_cons pe_int pa_nil)))) pa_nil)) (blkOk_by (own := [("_law_k", 4)]) (N := n__law_any_call) (sc := defScope s__law_any_call) (by decide +kernel)) (fun _ _ _ _ _ => pg_name (i := 4) (sc__law_any_call).nd rfl (Or.inl rfl)) (fun _ _ _ _ _ => pts_nil) (fun _ _ _ _ _ => (pe_call G__law_any_expression hr rfl m__law_any_expression k__law_any_expression b__law_any_expression .nil pass0 (pa_cons (pv 0) (pa_cons (pv 1) (pa_cons pe_int pa_nil)))))) pa_nil)))
    (pss_cons (ps_set (i := 3) (sc__law_any_call).nd rfl (Or.inl rfl) (pe_call G__law_name hr rfl m__law_name k__law_name b__law_name .nil pass0 (pa_cons (pv 0) (pa_cons (pv 1) pa_nil))))
    (pss_cons (ps_if (pt_cmpR op_eq (pe_call G__law_next hr rfl m__law_next k__law_next b__law_next .nil pass0 (pa_cons (pv 0) (pa_cons (pv 1) (pa_cons pe_int pa_nil)))) pe_int (nomark _)) (pss_one (ps_ret (pe_tup (pa_cons (pe_lit l23) (pa_cons (pv 3) (pa_cons (pv 2) (pa_cons (pe_call G__law_name hr rfl m__law_name k__law_name b__law_name .nil pass0 (pa_cons (pv 0) (pa_cons (pv 1) pa_nil))) pa_nil))))))) pss_nil)
    (pss_one (ps_ret (pe_tup (pa_cons (pe_lit l23) (pa_cons (pv 3) (pa_cons (pv 2) (pa_cons pe_non pa_nil))))))))))
theorem ok__law_any_call {P : Program} {w : World} {K : PySem.W.Frag} {mg : Str → Option Value} {base : Heap} {k : Nat} {p__law_next p__law_any_expression p__law_name : Sp} {sp : Sp} (T : GF K mg) (F : ∃ fd, FunD K "_law_any_call" "_law_any_call" (defArgs s__law_any_call) (defBody s__law_any_call) (defScope s__law_any_call) [] [] (He.ga K "_law_any_call") fd) (m : mg "_law_any_call" = some (.ref (He.ga K "_law_any_call"))) (h__law_next : Has P w K mg base k "_law_next" a__law_next p__law_next) (h__law_any_expression : Has P w K mg base k "_law_any_expression" a__law_any_expression p__law_any_expression) (h__law_name : Has P w K mg base k "_law_name" a__law_name p__law_name)
    (len : ∀ vs H Q E, sp vs H Q E → vs.length = (a__law_any_call).length) (pure_ : ∀ vs H Q E, sp vs H Q E → t__law_any_call K p__law_next p__law_any_expression p__law_name { nx := fun _ H' => Q .non H', rt := Q } (start n__law_any_call vs) H) :
    Has P w K mg base (k + 1) "_law_any_call" a__law_any_call sp := by
  obtain ⟨fd, F⟩ := F
  exact ⟨fd, FunD.ok F sc__law_any_call len fun cdv A outer s H vs Q E hr h => ⟨t__law_any_call K p__law_next p__law_any_expression p__law_name, PSs.nox (de__law_any_call T hr h__law_next h__law_any_expression h__law_name), pure_ vs H Q E h⟩, FunD.bindsN F (ps := a__law_any_call) (fun _ _ _ _ _ _ us hl => match us, hl with | [_, _], _ => rfl), F.kp, m⟩
theorem de__law_condition_words {P : Program} {w : World} {K : PySem.W.Frag} {mg : Str → Option Value} {base : Heap} {k : Nat} {f : Addr} {cdv : Value} {A : Around} {outer : List Env} {s : Shared} {H : Hp} {E : XK} {p__law_condition_words p__law_expression_words : Sp} (T : GF K mg) (hr : Room k (A.deeper (envOfC "_law_condition_words" (defScope s__law_condition_words) s.heap.objs.size f cdv))) (h__law_condition_words : Has P w K mg base k "_law_condition_words" a__law_condition_words p__law_condition_words) (h__law_expression_words : Has P w K mg base k "_law_expression_words" a__law_expression_words p__law_expression_words) :
    PSs (cxOf CX0 P w K mg base n__law_condition_words "_law_condition_words" (defScope s__law_condition_words) f cdv A outer s H E).nox (defBody s__law_condition_words) (t__law_condition_words K p__law_condition_words p__law_expression_words) := by
  obtain ⟨fd__law_condition_words, G__law_condition_words, b__law_condition_words, k__law_condition_words, m__law_condition_words⟩ := h__law_condition_words
  obtain ⟨fd__law_expression_words, G__law_expression_words, b__law_expression_words, k__law_expression_words, m__law_expression_words⟩ := h__law_expression_words
  exact (pss_cons (ps_if (pt_cmpR op_eq (pe_ix ix_tup (pv 0) pe_int (fun _ _ => rfl)) (pe_lit l29) (nomark _)) (pss_one (ps_ret (pe_op op_cat (pe_lst (pa_cons (pe_lit l29) pa_nil)) (pe_call G__law_condition_words hr rfl m__law_condition_words k__law_condition_words b__law_condition_words .nil pass0 (pa_cons (pe_ix ix_tup (pv 0) pe_int (fun _ _ => rfl)) pa_nil))))) pss_nil)
    (pss_cons (ps_if (pt_cmpR op_eq (pe_ix ix_tup (pv 0) pe_int (fun _ _ => rfl)) (pe_lit l31) (nomark _)) (pss_one (ps_ret (pe_op op_cat (pe_op op_cat (pe_call G__law_expression_words hr rfl m__law_expression_words k__law_expression_words b__law_expression_words .nil pass0 (pa_cons (pe_ix ix_tup (pv 0) pe_int (fun _ _ => rfl)) pa_nil)) (pe_lst (pa_cons (pe_ix ix_tup (pv 0) pe_int (fun _ _ => rfl)) pa_nil))) (pe_call G__law_expression_words hr rfl m__law_expression_words k__law_expression_words b__law_expression_words .nil pass0 (pa_cons (pe_ix ix_tup (pv 0) pe_int (fun _ _ => rfl)) pa_nil))))) pss_nil)
    (pss_one (ps_ret (pe_op op_cat (pe_op op_cat (pe_op op_cat (pe_op op_cat (pe_lst (pa_cons (pe_lit l32) pa_nil)) (pe_call G__law_condition_words hr rfl m__law_condition_words k__law_condition_words b__law_condition_words .nil pass0 (pa_cons (pe_ix ix_tup (pv 0) pe_int (fun _ _ => rfl)) pa_nil))) (pe_lst (pa_cons (pe_ix ix_tup (pv 0) pe_int (fun _ _ => rfl)) pa_nil))) (pe_call G__law_condition_words hr rfl m__law_condition_words k__law_condition_words b__law_condition_words .nil pass0 (pa_cons (pe_ix ix_tup (pv 0) pe_int (fun _ _ => rfl)) pa_nil))) (pe_lst (pa_cons (pe_lit l33) pa_nil)))))))
theorem ok__law_condition_words {P : Program} {w : World} {K : PySem.W.Frag} {mg : Str → Option Value} {base : Heap} {k : Nat} {p__law_condition_words p__law_expression_words : Sp} {sp : Sp} (T : GF K mg) (F : ∃ fd, FunD K "_law_condition_words" "_law_condition_words" (defArgs s__law_condition_words) (defBody s__law_condition_words) (defScope s__law_condition_words) [] [] (He.ga K "_law_condition_words") fd) (m : mg "_law_condition_words" = some (.ref (He.ga K "_law_condition_words"))) (h__law_condition_words : Has P w K mg base k "_law_condition_words" a__law_condition_words p__law_condition_words) (h__law_expression_words : Has P w K mg base k "_law_expression_words" a__law_expression_words p__law_expression_words)
    (len : ∀ vs H Q E, sp vs H Q E → vs.length = (a__law_condition_words).length) (pure_ : ∀ vs H Q E, sp vs H Q E → t__law_condition_words K p__law_condition_words p__law_expression_words { nx := fun _ H' => Q .non H', rt := Q } (start n__law_condition_words vs) H) :
    Has P w K mg base (k + 1) "_law_condition_words" a__law_condition_words sp := by
  obtain ⟨fd, F⟩ := F
  exact ⟨fd, FunD.ok F sc__law_condition_words len fun cdv A outer s H vs Q E hr h => ⟨t__law_condition_words K p__law_condition_words p__law_expression_words, PSs.nox (de__law_condition_words T hr h__law_condition_words h__law_expression_words), pure_ vs H Q E h⟩, FunD.bindsN F (ps := a__law_condition_words) (fun _ _ _ _ _ _ us hl => match us, hl with | [_], _ => rfl), F.kp, m⟩
theorem de__law_line {P : Program} {w : World} {K : PySem.W.Frag} {mg : Str → Option Value} {base : Heap} {k : Nat} {f : Addr} {cdv : Value} {A : Around} {outer : List Env} {s : Shared} {H : Hp} {E : XK} {p__law_gap : Sp} (T : GF K mg) (hr : Room k (A.deeper (envOfC "_law_line" (defScope s__law_line) s.heap.objs.size f cdv))) (h__law_gap : Has P w K mg base k "_law_gap" a__law_gap p__law_gap) :
    PSs (cxOf CX0 P w K mg base n__law_line "_law_line" (defScope s__law_line) f cdv A outer s H E).nox (defBody s__law_line) (t__law_line K p__law_gap) := by
  obtain ⟨fd__law_gap, G__law_gap, b__law_gap, k__law_gap, m__law_gap⟩ := h__law_gap
  exact (pss_cons (ps_set (i := 1) (sc__law_line).nd rfl (Or.inl rfl) (pe_lit l8))
    (pss_cons (ps_for PassesOwn.never rfl (pi_range1 rfl T.range (pa_cons (pe_callB call_len_seq rfl T.len boot_len (pa_cons (pv 0) pa_nil)) pa_nil)) (pg_name (i := 2) (sc__law_line).nd rfl (Or.inl rfl)) (pss_cons (ps_if (pt_cmpR op_gt (pv 2) pe_int (nomark _)) (pss_cons (ps_set (i := 3) (sc__law_line).nd rfl (Or.inl rfl) (pe_ifExp (pt_cmpR op_gt (pv 2) pe_int (nomark _)) (pe_ix ix_list (pv 0) (pe_op op_sub (pv 2) pe_int) (fun _ _ => rfl)) (pe_lit l8)))
    (pss_one (ps_if (pt_val (pe_call G__law_gap hr rfl m__law_gap k__law_gap b__law_gap .nil pass0 (pa_cons (pv 3) (pa_cons (pe_ix ix_list (pv 0) (pe_op op_sub (pv 2) pe_int) (fun _ _ => rfl)) (pa_cons (pe_ix ix_list (pv 0) (pv 2) (fun _ _ => rfl)) pa_nil))))) (pss_one (ps_set (i := 1) (sc__law_line).nd rfl (Or.inl rfl) (pe_op op_add_str (pv 1) (pe_lit l22)))) pss_nil))) pss_nil)
    (pss_one (ps_set (i := 1) (sc__law_line).nd rfl (Or.inl rfl) (pe_op op_add_str (pv 1) (pe_ix ix_list (pv 0) (pv 2) (fun _ _ => rfl)))))))
    (pss_one (ps_ret (pv 1)))))
theorem ok__law_line {P : Program} {w : World} {K : PySem.W.Frag} {mg : Str → Option Value} {base : Heap} {k : Nat} {p__law_gap : Sp} {sp : Sp} (T : GF K mg) (F : ∃ fd, FunD K "_law_line" "_law_line" (defArgs s__law_line) (defBody s__law_line) (defScope s__law_line) [] [] (He.ga K "_law_line") fd) (m : mg "_law_line" = some (.ref (He.ga K "_law_line"))) (h__law_gap : Has P w K mg base k "_law_gap" a__law_gap p__law_gap)
    (len : ∀ vs H Q E, sp vs H Q E → vs.length = (a__law_line).length) (pure_ : ∀ vs H Q E, sp vs H Q E → t__law_line K p__law_gap { nx := fun _ H' => Q .non H', rt := Q } (start n__law_line vs) H) :
    Has P w K mg base (k + 1) "_law_line" a__law_line sp := by
  obtain ⟨fd, F⟩ := F
  exact ⟨fd, FunD.ok F sc__law_line len fun cdv A outer s H vs Q E hr h => ⟨t__law_line K p__law_gap, PSs.nox (de__law_line T hr h__law_gap), pure_ vs H Q E h⟩, FunD.bindsN F (ps := a__law_line) (fun _ _ _ _ _ _ us hl => match us, hl with | [_], _ => rfl), F.kp, m⟩
end Cc
end
section
namespace Cc
open PySem PySem.Spec PyProof.Rows L2
theorem de_block_lines {P : Program} {w : World} {K : PySem.W.Frag} {mg : Str → Option Value} {base : Heap} {k : Nat} {f : Addr} {cdv : Value} {A : Around} {outer : List Env} {s : Shared} {H : Hp} {E : XK} {p_statement_lines : Sp} (T : GF K mg) (hr : Room k (A.deeper (envOfC "block_lines" (defScope s_block_lines) s.heap.objs.size f cdv))) (h_statement_lines : Has P w K mg base k "statement_lines" a_statement_lines p_statement_lines) :
    PSs (cxOf CX0 P w K mg base n_block_lines "block_lines" (defScope s_block_lines) f cdv A outer s H E).nox (defBody s_block_lines) (t_block_lines K p_statement_lines) := by
  obtain ⟨fd_statement_lines, G_statement_lines, b_statement_lines, k_statement_lines, m_statement_lines⟩ := h_statement_lines
  exact (pss_cons (ps_set (i := 2) (sc_block_lines).nd rfl (Or.inl rfl) (pe_lst pa_nil))
    (pss_cons (ps_for PassesOwn.never rfl (pi_tup (pv 0)) (pg_name (i := 3) (sc_block_lines).nd rfl (Or.inl rfl)) (pss_one (ps_expr (pe_bm PySem.F.plainAttrs_list PySem.F.slot_list_extend PySem.F.type_list_extend mt_extend (pv 2) (pa_cons (pe_call G_statement_lines hr rfl m_statement_lines k_statement_lines b_statement_lines .nil pass0 (pa_cons (pv 3) (pa_cons (pv 1) pa_nil))) pa_nil)))))
    (pss_one (ps_ret (pv 2)))))
theorem ok_block_lines {P : Program} {w : World} {K : PySem.W.Frag} {mg : Str → Option Value} {base : Heap} {k : Nat} {p_statement_lines : Sp} {sp : Sp} (T : GF K mg) (F : ∃ fd, FunD K "block_lines" "block_lines" (defArgs s_block_lines) (defBody s_block_lines) (defScope s_block_lines) [] [] (He.ga K "block_lines") fd) (m : mg "block_lines" = some (.ref (He.ga K "block_lines"))) (h_statement_lines : Has P w K mg base k "statement_lines" a_statement_lines p_statement_lines)
    (len : ∀ vs H Q E, sp vs H Q E → vs.length = (a_block_lines).length) (pure_ : ∀ vs H Q E, sp vs H Q E → t_block_lines K p_statement_lines { nx := fun _ H' => Q .non H', rt := Q } (start n_block_lines vs) H) :
    Has P w K mg base (k + 1) "block_lines" a_block_lines sp := by
  obtain ⟨fd, F⟩ := F
  exact ⟨fd, FunD.ok F sc_block_lines len fun cdv A outer s H vs Q E hr h => ⟨t_block_lines K p_statement_lines, PSs.nox (de_block_lines T hr h_statement_lines), pure_ vs H Q E h⟩, FunD.bindsN F (ps := a_block_lines) (fun _ _ _ _ _ _ us hl => match us, hl with | [_, _], _ => rfl), F.kp, m⟩
theorem de_token_at {P : Program} {w : World} {K : PySem.W.Frag} {mg : Str → Option Value} {base : Heap} {k : Nat} {f : Addr} {cdv : Value} {A : Around} {outer : List Env} {s : Shared} {H : Hp} {E : XK} {p_end_of p_number_at : Sp} (T : GF K mg) (hr : Room k (A.deeper (envOfC "token_at" (defScope s_token_at) s.heap.objs.size f cdv))) (h_end_of : Has P w K mg base k "end_of" a_end_of p_end_of) (h_number_at : Has P w K mg base k "number_at" a_number_at p_number_at) :
    PSs (cxOf CX0 P w K mg base n_token_at "token_at" (defScope s_token_at) f cdv A outer s H E).nox (defBody s_token_at) (t_token_at K p_end_of p_number_at) := by
  obtain ⟨fd_end_of, G_end_of, b_end_of, k_end_of, m_end_of⟩ := h_end_of
  obtain ⟨fd_number_at, G_number_at, b_number_at, k_number_at, m_number_at⟩ := h_number_at
  exact (pss_cons (ps_set (i := 2) (sc_token_at).nd rfl (Or.inl rfl) (pe_ix ix_str (pv 0) (pv 1) (fun _ _ => rfl)))
    (pss_cons (ps_if (pt_cmpR op_in_sign (pv 2) (pe_glob rfl T.LETTERS.choose_spec ⟨_, rfl⟩) rfl) (pss_cons (ps_set (i := 3) (sc_token_at).nd rfl (Or.inl rfl) (pe_call G_end_of hr rfl m_end_of k_end_of b_end_of .nil pass0 (pa_cons (pv 0) (pa_cons (pv 1) (pa_cons (pe_glob rfl T.WORD_CHARACTERS.choose_spec ⟨_, rfl⟩) pa_nil)))))
    (pss_cons (ps_if (pt_cmpR op_gt (pe_op op_sub (pv 3) (pv 1)) (pe_glob rfl T.WORD_LENGTH.choose_spec ⟨_, rfl⟩) (nomark _)) (pss_one (ps_ret (pe_tup (pa_cons (pe_lit l34) (pa_cons (pe_lit l8) (pa_cons (pv 1) pa_nil)))))) pss_nil)
    (pss_one (ps_ret (pe_tup (pa_cons (pe_lit l35) (pa_cons (pe_slice sl_str (pv 0) (po_some (pv 1)) (po_some (pv 3))) (pa_cons (pv 3) pa_nil)))))))) pss_nil)
    (pss_cons (ps_if (pt_cmpR op_in_sign (pv 2) (pe_glob rfl T.DIGITS.choose_spec ⟨_, rfl⟩) rfl) (pss_one (ps_ret (pe_call G_number_at hr rfl m_number_at k_number_at b_number_at .nil pass0 (pa_cons (pv 0) (pa_cons (pv 1) pa_nil))))) pss_nil)
    (pss_cons (ps_for PassesOwn.never rfl (pi_tup (pe_glob rfl T.SIGNS rfl)) (pg_name (i := 4) (sc_token_at).nd rfl (Or.inl rfl)) (pss_one (ps_if (pt_cmpR op_eq (pe_slice sl_str (pv 0) (po_some (pv 1)) (po_some (pe_op op_add (pv 1) (pe_callB call_len_str rfl T.len boot_len (pa_cons (pv 4) pa_nil))))) (pv 4) (nomark _)) (pss_one (ps_ret (pe_tup (pa_cons (pe_lit l36) (pa_cons (pv 4) (pa_cons (pe_op op_add (pv 1) (pe_callB call_len_str rfl T.len boot_len (pa_cons (pv 4) pa_nil))) pa_nil)))))) pss_nil)))
    (pss_one (ps_ret (pe_tup (pa_cons (pe_lit l34) (pa_cons (pe_lit l8) (pa_cons (pv 1) pa_nil))))))))))
theorem ok_token_at {P : Program} {w : World} {K : PySem.W.Frag} {mg : Str → Option Value} {base : Heap} {k : Nat} {p_end_of p_number_at : Sp} {sp : Sp} (T : GF K mg) (F : ∃ fd, FunD K "token_at" "token_at" (defArgs s_token_at) (defBody s_token_at) (defScope s_token_at) [] [] (He.ga K "token_at") fd) (m : mg "token_at" = some (.ref (He.ga K "token_at"))) (h_end_of : Has P w K mg base k "end_of" a_end_of p_end_of) (h_number_at : Has P w K mg base k "number_at" a_number_at p_number_at)
    (len : ∀ vs H Q E, sp vs H Q E → vs.length = (a_token_at).length) (pure_ : ∀ vs H Q E, sp vs H Q E → t_token_at K p_end_of p_number_at { nx := fun _ H' => Q .non H', rt := Q } (start n_token_at vs) H) :
    Has P w K mg base (k + 1) "token_at" a_token_at sp := by
  obtain ⟨fd, F⟩ := F
  exact ⟨fd, FunD.ok F sc_token_at len fun cdv A outer s H vs Q E hr h => ⟨t_token_at K p_end_of p_number_at, PSs.nox (de_token_at T hr h_end_of h_number_at), pure_ vs H Q E h⟩, FunD.bindsN F (ps := a_token_at) (fun _ _ _ _ _ _ us hl => match us, hl with | [_, _], _ => rfl), F.kp, m⟩
theorem de_Reader_value {P : Program} {w : World} {K : PySem.W.Frag} {mg : Str → Option Value} {base : Heap} {k : Nat} {f : Addr} {cdv : Value} {A : Around} {outer : List Env} {s : Shared} {H : Hp} {E : XK} (T : GF K mg) (hr : Room k (A.deeper (envOfC "Reader.value" (defScope s_Reader_value) s.heap.objs.size f cdv))) :
    PSs (cxOf CX0 P w K mg base n_Reader_value "Reader.value" (defScope s_Reader_value) f cdv A outer s H E).nox (defBody s_Reader_value) (t_Reader_value K ) := by
  exact (pss_one (ps_ret (pe_ifExp (pt_cmpR op_lt (pe_fld (pv 0) rfl) (pe_callB call_len_seq rfl T.len boot_len (pa_cons (pe_fld (pv 0) rfl) pa_nil)) (nomark _)) (pe_ix ix_tup (pe_ix ix_tup (pe_fld (pv 0) rfl) (pe_fld (pv 0) rfl) (fun _ _ => rfl)) pe_int (fun _ _ => rfl)) (pe_lit l8))))
theorem ok_Reader_value {P : Program} {w : World} {K : PySem.W.Frag} {mg : Str → Option Value} {base : Heap} {k : Nat} {sp : Sp} (T : GF K mg) (F : ∃ fd, FunD K "value" "Reader.value" (defArgs s_Reader_value) (defBody s_Reader_value) (defScope s_Reader_value) [] [] (He.ma K (He.ga K "Reader") "value") fd) (M : Meth K (He.ga K "Reader") "value" (He.ma K (He.ga K "Reader") "value"))
    (len : ∀ vs H Q E, sp vs H Q E → vs.length = (a_Reader_value).length) (pure_ : ∀ vs H Q E, sp vs H Q E → t_Reader_value K  { nx := fun _ H' => Q .non H', rt := Q } (start n_Reader_value vs) H) :
    HasM P w K mg base (k + 1) "value" a_Reader_value sp := by
  obtain ⟨fd, F⟩ := F
  exact ⟨fd, FunD.ok F sc_Reader_value len fun cdv A outer s H vs Q E hr h => ⟨t_Reader_value K , PSs.nox (de_Reader_value T hr), pure_ vs H Q E h⟩, FunD.bindsN F (ps := a_Reader_value) (fun _ _ _ _ _ _ us hl => match us, hl with | [_], _ => rfl), M⟩
theorem de_Reader_need_name {P : Program} {w : World} {K : PySem.W.Frag} {mg : Str → Option Value} {base : Heap} {k : Nat} {f : Addr} {cdv : Value} {A : Around} {outer : List Env} {s : Shared} {H : Hp} {E : XK} {p_kind p_value p_fail p_step : Sp} (T : GF K mg) (hr : Room k (A.deeper (envOfC "Reader.need_name" (defScope s_Reader_need_name) s.heap.objs.size f cdv))) (h_kind : HasM P w K mg base k "kind" a_Reader_kind p_kind) (h_value : HasM P w K mg base k "value" a_Reader_value p_value) (h_fail : HasM P w K mg base k "fail" a_Reader_fail p_fail) (h_step : HasM P w K mg base k "step" a_Reader_step p_step) :
    PSs (cxOf CX0 P w K mg base n_Reader_need_name "Reader.need_name" (defScope s_Reader_need_name) f cdv A outer s H E).nox (defBody s_Reader_need_name) (t_Reader_need_name K p_kind p_value p_fail p_step) := by
  obtain ⟨fd_kind, G_kind, b_kind, M_kind⟩ := h_kind
  obtain ⟨fd_value, G_value, b_value, M_value⟩ := h_value
  obtain ⟨fd_fail, G_fail, b_fail, M_fail⟩ := h_fail
  obtain ⟨fd_step, G_step, b_step, M_step⟩ := h_step
  exact (pss_cons (ps_if (PW.pt (pw_or (pt_cmpR op_ne (pe_meth0 (pv 0) T.clR M_kind G_kind hr b_kind .nil pass0) (pe_lit l35) (nomark _)) (pw_or1 (pt_cmpR op_in_seq (pe_meth0 (pv 0) T.clR M_value G_value hr b_value .nil pass0) (pe_glob rfl T.RESERVED rfl) rfl)))) (pss_one (ps_expr (pe_meth0 (pv 0) T.clR M_fail G_fail hr b_fail .nil pass0))) pss_nil)
    (pss_cons (ps_set (i := 1) (sc_Reader_need_name).nd rfl (Or.inl rfl) (pe_meth0 (pv 0) T.clR M_value G_value hr b_value .nil pass0))
    (pss_cons (ps_expr (pe_meth0 (pv 0) T.clR M_step G_step hr b_step .nil pass0))
    (pss_one (ps_ret (pv 1))))))
theorem ok_Reader_need_name {P : Program} {w : World} {K : PySem.W.Frag} {mg : Str → Option Value} {base : Heap} {k : Nat} {p_kind p_value p_fail p_step : Sp} {sp : Sp} (T : GF K mg) (F : ∃ fd, FunD K "need_name" "Reader.need_name" (defArgs s_Reader_need_name) (defBody s_Reader_need_name) (defScope s_Reader_need_name) [] [] (He.ma K (He.ga K "Reader") "need_name") fd) (M : Meth K (He.ga K "Reader") "need_name" (He.ma K (He.ga K "Reader") "need_name")) (h_kind : HasM P w K mg base k "kind" a_Reader_kind p_kind) (h_value : HasM P w K mg base k "value" a_Reader_value p_value) (h_fail : HasM P w K mg base k "fail" a_Reader_fail p_fail) (h_step : HasM P w K mg base k "step" a_Reader_step p_step)
    (len : ∀ vs H Q E, sp vs H Q E → vs.length = (a_Reader_need_name).length) (pure_ : ∀ vs H Q E, sp vs H Q E → t_Reader_need_name K p_kind p_value p_fail p_step { nx := fun _ H' => Q .non H', rt := Q } (start n_Reader_need_name vs) H) :
    HasM P w K mg base (k + 1) "need_name" a_Reader_need_name sp := by
  obtain ⟨fd, F⟩ := F
  exact ⟨fd, FunD.ok F sc_Reader_need_name len fun cdv A outer s H vs Q E hr h => ⟨t_Reader_need_name K p_kind p_value p_fail p_step, PSs.nox (de_Reader_need_name T hr h_kind h_value h_fail h_step), pure_ vs H Q E h⟩, FunD.bindsN F (ps := a_Reader_need_name) (fun _ _ _ _ _ _ us hl => match us, hl with | [_], _ => rfl), M⟩
theorem de_read_call {P : Program} {w : World} {K : PySem.W.Frag} {mg : Str → Option Value} {base : Heap} {k : Nat} {f : Addr} {cdv : Value} {A : Around} {outer : List Env} {s : Shared} {H : Hp} {E : XK} {p_read_expression p_step p_need_name p_need_sign p_is_sign p_is_word : Sp} (T : GF K mg) (hr : Room k (A.deeper (envOfC "read_call" (defScope s_read_call) s.heap.objs.size f cdv))) (h_read_expression : Has P w K mg base k "read_expression" a_read_expression p_read_expression) (h_step : HasM P w K mg base k "step" a_Reader_step p_step) (h_need_name : HasM P w K mg base k "need_name" a_Reader_need_name p_need_name) (h_need_sign : HasM P w K mg base k "need_sign" a_Reader_need_sign p_need_sign) (h_is_sign : HasM P w K mg base k "is_sign" a_Reader_is_sign p_is_sign) (h_is_word : HasM P w K mg base k "is_word" a_Reader_is_word p_is_word) :
    PSs (cxOf CX0 P w K mg base n_read_call "read_call" (defScope s_read_call) f cdv A outer s H E).nox (defBody s_read_call) (t_read_call K p_read_expression p_step p_need_name p_need_sign p_is_sign p_is_word) := by
  obtain ⟨fd_read_expression, G_read_expression, b_read_expression, k_read_expression, m_read_expression⟩ := h_read_expression
  obtain ⟨fd_step, G_step, b_step, M_step⟩ := h_step
  obtain ⟨fd_need_name, G_need_name, b_need_name, M_need_name⟩ := h_need_name
  obtain ⟨fd_need_sign, G_need_sign, b_need_sign, M_need_sign⟩ := h_need_sign
  obtain ⟨fd_is_sign, G_is_sign, b_is_sign, M_is_sign⟩ := h_is_sign
  obtain ⟨fd_is_word, G_is_word, b_is_word, M_is_word⟩ := h_is_word
  exact (pss_cons (ps_expr (pe_meth0 (pv 0) T.clR M_step G_step hr b_step .nil pass0))
    (pss_cons (ps_set (i := 1) (sc_read_call).nd rfl (Or.inl rfl) (pe_meth0 (pv 0) T.clR M_need_name G_need_name hr b_need_name .nil pass0))
    (pss_cons (ps_expr (pe_meth (pv 0) T.clR M_need_sign G_need_sign hr b_need_sign .nil pass0 (pa_cons (pe_lit l3) pa_nil)))
    (pss_cons (ps_set (i := 2) (sc_read_call).nd rfl (Or.inl rfl) (pe_lst pa_nil))
    (pss_cons (ps_if (pt_not (pt_val (pe_meth (pv 0) T.clR M_is_sign G_is_sign hr b_is_sign .nil pass0 (pa_cons (pe_lit l26) pa_nil)))) (pss_cons (ps_expr (pe_bm PySem.F.plainAttrs_list PySem.F.slot_list_append PySem.F.type_list_append mt_append (pv 2) (pa_cons (pe_call G_read_expression hr rfl m_read_expression k_read_expression b_read_expression .nil pass0 (pa_cons (pv 0) pa_nil)) pa_nil)))
    (pss_one (ps_while PassesOwn.never (pt_val (pe_meth (pv 0) T.clR M_is_sign G_is_sign hr b_is_sign .nil pass0 (pa_cons (pe_lit l40) pa_nil))) (pss_cons (ps_expr (pe_meth0 (pv 0) T.clR M_step G_step hr b_step .nil pass0))
    (pss_one (ps_expr (pe_bm PySem.F.plainAttrs_list PySem.F.slot_list_append PySem.F.type_list_append mt_append (pv 2) (pa_cons (pe_call G_read_expression hr rfl m_read_expression k_read_expression b_read_expression .nil pass0 (pa_cons (pv 0) pa_nil)) pa_nil)))))))) pss_nil)
    (pss_cons (ps_expr (pe_meth (pv 0) T.clR M_need_sign G_need_sign hr b_need_sign .nil pass0 (pa_cons (pe_lit l26) pa_nil)))
    (pss_cons (ps_set (i := 3) (sc_read_call).nd rfl (Or.inl rfl) pe_non)
    (pss_cons (ps_if (pt_val (pe_meth (pv 0) T.clR M_is_word G_is_word hr b_is_word .nil pass0 (pa_cons (pe_lit l46) pa_nil))) (pss_cons (ps_expr (pe_meth0 (pv 0) T.clR M_step G_step hr b_step .nil pass0))
    (pss_one (ps_set (i := 3) (sc_read_call).nd rfl (Or.inl rfl) (pe_meth0 (pv 0) T.clR M_need_name G_need_name hr b_need_name .nil pass0)))) pss_nil)
    (pss_cons (ps_expr (pe_meth (pv 0) T.clR M_need_sign G_need_sign hr b_need_sign .nil pass0 (pa_cons (pe_lit l0) pa_nil)))
    (pss_one (ps_ret (pe_tup (pa_cons (pe_lit l23) (pa_cons (pv 1) (pa_cons (pe_callTy call_tuple_of rfl T.tuple_ (by decide +kernel) (pa_cons (pv 2) pa_nil)) (pa_cons (pv 3) pa_nil))))))))))))))))
theorem ok_read_call {P : Program} {w : World} {K : PySem.W.Frag} {mg : Str → Option Value} {base : Heap} {k : Nat} {p_read_expression p_step p_need_name p_need_sign p_is_sign p_is_word : Sp} {sp : Sp} (T : GF K mg) (F : ∃ fd, FunD K "read_call" "read_call" (defArgs s_read_call) (defBody s_read_call) (defScope s_read_call) [] [] (He.ga K "read_call") fd) (m : mg "read_call" = some (.ref (He.ga K "read_call"))) (h_read_expression : Has P w K mg base k "read_expression" a_read_expression p_read_expression) (h_step : HasM P w K mg base k "step" a_Reader_step p_step) (h_need_name : HasM P w K mg base k "need_name" a_Reader_need_name p_need_name) (h_need_sign : HasM P w K mg base k "need_sign" a_Reader_need_sign p_need_sign) (h_is_sign : HasM P w K mg base k "is_sign" a_Reader_is_sign p_is_sign) (h_is_word : HasM P w K mg base k "is_word" a_Reader_is_word p_is_word)
    (len : ∀ vs H Q E, sp vs H Q E → vs.length = (a_read_call).length) (pure_ : ∀ vs H Q E, sp vs H Q E → t_read_call K p_read_expression p_step p_need_name p_need_sign p_is_sign p_is_word { nx := fun _ H' => Q .non H', rt := Q } (start n_read_call vs) H) :
    Has P w K mg base (k + 1) "read_call" a_read_call sp := by
  obtain ⟨fd, F⟩ := F
  exact ⟨fd, FunD.ok F sc_read_call len fun cdv A outer s H vs Q E hr h => ⟨t_read_call K p_read_expression p_step p_need_name p_need_sign p_is_sign p_is_word, PSs.nox (de_read_call T hr h_read_expression h_step h_need_name h_need_sign h_is_sign h_is_word), pure_ vs H Q E h⟩, FunD.bindsN F (ps := a_read_call) (fun _ _ _ _ _ _ us hl => match us, hl with | [_], _ => rfl), F.kp, m⟩
theorem de__law_word {P : Program} {w : World} {K : PySem.W.Frag} {mg : Str → Option Value} {base : Heap} {k : Nat} {f : Addr} {cdv : Value} {A : Around} {outer : List Env} {s : Shared} {H : Hp} {E : XK} {p__law_next : Sp} (T : GF K mg) (hr : Room k (A.deeper (envOfC "_law_word" (defScope s__law_word) s.heap.objs.size f cdv))) (h__law_next : Has P w K mg base k "_law_next" a__law_next p__law_next) :
    PSs (cxOf CX0 P w K mg base n__law_word "_law_word" (defScope s__law_word) f cdv A outer s H E).nox (defBody s__law_word) (t__law_word K p__law_next) := by
  obtain ⟨fd__law_next, G__law_next, b__law_next, k__law_next, m__law_next⟩ := h__law_next
  exact (pss_cons (ps_set (i := 2) (sc__law_word).nd rfl (Or.inl rfl) (pe_lit l52))
    (pss_cons (ps_set (i := 3) (sc__law_word).nd rfl (Or.inl rfl) (pe_op op_add_str (pv 2) (pe_lit l53)))
    (pss_cons (ps_set (i := 4) (sc__law_word).nd rfl (Or.inl rfl) (pe_op op_add pe_int (pe_call G__law_next hr rfl m__law_next k__law_next b__law_next .nil pass0 (pa_cons (pv 0) (pa_cons (pv 1) (pa_cons (pe_ix ix_list (pe_lst (pa_cons pe_int (pa_cons pe_int pa_nil))) (pe_call G__law_next hr rfl m__law_next k__law_next b__law_next .nil pass0 (pa_cons (pv 0) (pa_cons (pv 1) (pa_cons pe_int pa_nil)))) (fun _ _ => rfl)) pa_nil))))))
    (pss_cons (ps_set (i := 5) (sc__law_word).nd rfl (Or.inl rfl) (pe_ix ix_str (pv 2) (pe_call G__law_next hr rfl m__law_next k__law_next b__law_next .nil pass0 (pa_cons (pv 0) (pa_cons (pv 1) (pa_cons pe_int pa_nil)))) (fun _ _ => rfl)))
    (pss_cons (ps_for PassesOwn.never rfl (pi_range1 rfl T.range (pa_cons (pe_op op_sub (pv 4) pe_int) pa_nil)) (pg_name (i := 6) (sc__law_word).nd rfl (Or.inl rfl)) (pss_one (ps_set (i := 5) (sc__law_word).nd rfl (Or.inl rfl) (pe_op op_add_str (pv 5) (pe_ix ix_str (pv 3) (pe_call G__law_next hr rfl m__law_next k__law_next b__law_next .nil pass0 (pa_cons (pv 0) (pa_cons (pv 1) (pa_cons pe_int pa_nil)))) (fun _ _ => rfl))))))
    (pss_one (ps_ret (pv 5))))))))
theorem ok__law_word {P : Program} {w : World} {K : PySem.W.Frag} {mg : Str → Option Value} {base : Heap} {k : Nat} {p__law_next : Sp} {sp : Sp} (T : GF K mg) (F : ∃ fd, FunD K "_law_word" "_law_word" (defArgs s__law_word) (defBody s__law_word) (defScope s__law_word) [] [] (He.ga K "_law_word") fd) (m : mg "_law_word" = some (.ref (He.ga K "_law_word"))) (h__law_next : Has P w K mg base k "_law_next" a__law_next p__law_next)
    (len : ∀ vs H Q E, sp vs H Q E → vs.length = (a__law_word).length) (pure_ : ∀ vs H Q E, sp vs H Q E → t__law_word K p__law_next { nx := fun _ H' => Q .non H', rt := Q } (start n__law_word vs) H) :
    Has P w K mg base (k + 1) "_law_word" a__law_word sp := by
  obtain ⟨fd, F⟩ := F
  exact ⟨fd, FunD.ok F sc__law_word len fun cdv A outer s H vs Q E hr h => ⟨t__law_word K p__law_next, PSs.nox (de__law_word T hr h__law_next), pure_ vs H Q E h⟩, FunD.bindsN F (ps := a__law_word) (fun _ _ _ _ _ _ us hl => match us, hl with | [_, _], _ => rfl), F.kp, m⟩
theorem de__law_any_statement {P : Program} {w : World} {K : PySem.W.Frag} {mg : Str → Option Value} {base : Heap} {k : Nat} {f : Addr} {cdv : Value} {A : Around} {outer : List Env} {s : Shared} {H : Hp} {E : XK} {p__law_next p__law_any_condition p__law_any_block p__law_any_call p__law_name p__law_any_expression : Sp} (T : GF K mg) (hr : Room k (A.deeper (envOfC "_law_any_statement" (defScope s__law_any_statement) s.heap.objs.size f cdv))) (h__law_next : Has P w K mg base k "_law_next" a__law_next p__law_next) (h__law_any_condition : Has P w K mg base k "_law_any_condition" a__law_any_condition p__law_any_condition) (h__law_any_block : Has P w K mg base k "_law_any_block" a__law_any_block p__law_any_block) (h__law_any_call : Has P w K mg base k "_law_any_call" a__law_any_call p__law_any_call) (h__law_name : Has P w K mg base k "_law_name" a__law_name p__law_name) (h__law_any_expression : Has P w K mg base k "_law_any_expression" a__law_any_expression p__law_any_expression) :
    PSs (cxOf CX0 P w K mg base n__law_any_statement "_law_any_statement" (defScope s__law_any_statement) f cdv A outer s H E).nox (defBody s__law_any_statement) (t__law_any_statement K p__law_next p__law_any_condition p__law_any_block p__law_any_call p__law_name p__law_any_expression) := by
  obtain ⟨fd__law_next, G__law_next, b__law_next, k__law_next, m__law_next⟩ := h__law_next
  obtain ⟨fd__law_any_condition, G__law_any_condition, b__law_any_condition, k__law_any_condition, m__law_any_condition⟩ := h__law_any_condition
  obtain ⟨fd__law_any_block, G__law_any_block, b__law_any_block, k__law_any_block, m__law_any_block⟩ := h__law_any_block
  obtain ⟨fd__law_any_call, G__law_any_call, b__law_any_call, k__law_any_call, m__law_any_call⟩ := h__law_any_call
  obtain ⟨fd__law_name, G__law_name, b__law_name, k__law_name, m__law_name⟩ := h__law_name
  obtain ⟨fd__law_any_expression, G__law_any_expression, b__law_any_expression, k__law_any_expression, m__law_any_expression⟩ := h__law_any_expression
  exact (pss_cons (ps_set (i := 3) (sc__law_any_statement).nd rfl (Or.inl rfl) (pe_call G__law_next hr rfl m__law_next k__law_next b__law_next .nil pass0 (pa_cons (pv 0) (pa_cons (pv 1) (pa_cons pe_int pa_nil)))))
    (pss_cons (ps_if (PW.pt (pw_and (pt_cmpR op_lt (pv 3) pe_int (nomark _)) (pw_and1 (pt_cmpR op_gt (pv 2) pe_int (nomark _))))) (pss_cons (ps_set (i := 4) (sc__law_any_statement).nd rfl (Or.inl rfl) (pe_call G__law_any_condition hr rfl m__law_any_condition k__law_any_condition b__law_any_condition .nil pass0 (pa_cons (pv 0) (pa_cons (pv 1) (pa_cons pe_int pa_nil)))))
    (pss_cons (ps_set (i := 5) (sc__law_any_statement).nd rfl (Or.inl rfl) (pe_call G__law_any_block hr rfl m__law_any_block k__law_any_block b__law_any_block .nil pass0 (pa_cons (pv 0) (pa_cons (pv 1) (pa_cons (pe_op op_sub (pv 2) pe_int) pa_nil)))))
    (pss_one (ps_ret (pe_tup (pa_cons (pe_lit l10) (pa_cons (pv 4) (pa_cons (pv 5) (pa_cons (pe_call G__law_any_block hr rfl m__law_any_block k__law_any_block b__law_any_block .nil pass0 (pa_cons (pv 0) (pa_cons (pv 1) (pa_cons (pe_op op_sub (pv 2) pe_int) pa_nil)))) pa_nil))))))))) pss_nil)
    (pss_cons (ps_if (PW.pt (pw_and (pt_cmpR op_eq (pv 3) pe_int (nomark _)) (pw_and1 (pt_cmpR op_gt (pv 2) pe_int (nomark _))))) (pss_cons (ps_set (i := 4) (sc__law_any_statement).nd rfl (Or.inl rfl) (pe_call G__law_any_condition hr rfl m__law_any_condition k__law_any_condition b__law_any_condition .nil pass0 (pa_cons (pv 0) (pa_cons (pv 1) (pa_cons pe_int pa_nil)))))
    (pss_one (ps_ret (pe_tup (pa_cons (pe_lit l14) (pa_cons (pv 4) (pa_cons (pe_call G__law_any_block hr rfl m__law_any_block k__law_any_block b__law_any_block .nil pass0 (pa_cons (pv 0) (pa_cons (pv 1) (pa_cons (pe_op op_sub (pv 2) pe_int) pa_nil)))) pa_nil))))))) pss_nil)
    (pss_cons (ps_if (pt_cmpR op_lt (pv 3) pe_int (nomark _)) (pss_one (ps_ret (pe_call G__law_any_call hr rfl m__law_any_call k__law_any_call b__law_any_call .nil pass0 (pa_cons (pv 0) (pa_cons (pv 1) pa_nil))))) pss_nil)
    (pss_cons (ps_if (pt_cmpR op_eq (pv 3) pe_int (nomark _)) (pss_one (ps_ret (pe_tup (pa_cons (pe_lit l18) (pa_cons (pe_call G__law_name hr rfl m__law_name k__law_name b__law_name .nil pass0 (pa_cons (pv 0) (pa_cons (pv 1) pa_nil))) pa_nil))))) pss_nil)
    (pss_cons (ps_if (pt_cmpR op_eq (pv 3) pe_int (nomark _)) (pss_one (ps_ret (pe_tup (pa_cons (pe_ix ix_list (pe_lst (pa_cons (pe_lit l21) (pa_cons (pe_lit l20) pa_nil))) (pe_call G__law_next hr rfl m__law_next k__law_next b__law_next .nil pass0 (pa_cons (pv 0) (pa_cons (pv 1) (pa_cons pe_int pa_nil)))) (fun _ _ => rfl)) (pa_cons (pe_call G__law_any_condition hr rfl m__law_any_condition k__law_any_condition b__law_any_condition .nil pass0 (pa_cons (pv 0) (pa_cons (pv 1) (pa_cons pe_int pa_nil)))) pa_nil))))) pss_nil)
    (pss_cons (ps_if (pt_cmpR op_eq (pv 3) pe_int (nomark _)) (pss_one (ps_ret (pe_tup (pa_cons (pe_ix ix_list (pe_lst (pa_cons (pe_lit l43) (pa_cons (pe_lit l42) pa_nil))) (pe_call G__law_next hr rfl m__law_next k__law_next b__law_next .nil pass0 (pa_cons (pv 0) (pa_cons (pv 1) (pa_cons pe_int pa_nil)))) (fun _ _ => rfl)) (pa_cons (pe_call G__law_any_expression hr rfl m__law_any_expression k__law_any_expression b__law_any_expression .nil pass0 (pa_cons (pv 0) (pa_cons (pv 1) (pa_cons pe_int pa_nil)))) pa_nil))))) pss_nil)
    (pss_one (ps_ret (pe_tup (pa_cons (pe_lit l16) (pa_cons (pe_call G__law_name hr rfl m__law_name k__law_name b__law_name .nil pass0 (pa_cons (pv 0) (pa_cons (pv 1) pa_nil))) (pa_cons (pe_call G__law_any_expression hr rfl m__law_any_expression k__law_any_expression b__law_any_expression .nil pass0 (pa_cons (pv 0) (pa_cons (pv 1) (pa_cons pe_int pa_nil)))) pa_nil)))))))))))))
theorem ok__law_any_statement {P : Program} {w : World} {K : PySem.W.Frag} {mg : Str → Option Value} {base : Heap} {k : Nat} {p__law_next p__law_any_condition p__law_any_block p__law_any_call p__law_name p__law_any_expression : Sp} {sp : Sp} (T : GF K mg) (F : ∃ fd, FunD K "_law_any_statement" "_law_any_statement" (defArgs s__law_any_statement) (defBody s__law_any_statement) (defScope s__law_any_statement) [] [] (He.ga K "_law_any_statement") fd) (m : mg "_law_any_statement" = some (.ref (He.ga K "_law_any_statement"))) (h__law_next : Has P w K mg base k "_law_next" a__law_next p__law_next) (h__law_any_condition : Has P w K mg base k "_law_any_condition" a__law_any_condition p__law_any_condition) (h__law_any_block : Has P w K mg base k "_law_any_block" a__law_any_block p__law_any_block) (h__law_any_call : Has P w K mg base k "_law_any_call" a__law_any_call p__law_any_call) (h__law_name : Has P w K mg base k "_law_name" a__law_name p__law_name) (h__law_any_expression : Has P w K mg base k "_law_any_expression" a__law_any_expression p__law_any_expression)
    (len : ∀ vs H Q E, sp vs H Q E → vs.length = (a__law_any_statement).length) (pure_ : ∀ vs H Q E, sp vs H Q E → t__law_any_statement K p__law_next p__law_any_condition p__law_any_block p__law_any_call p__law_name p__law_any_expression { nx := fun _ H' => Q .non H', rt := Q } (start n__law_any_statement vs) H) :
    Has P w K mg base (k + 1) "_law_any_statement" a__law_any_statement sp := by
  obtain ⟨fd, F⟩ := F
  exact ⟨fd, FunD.ok F sc__law_any_statement len fun cdv A outer s H vs Q E hr h => ⟨t__law_any_statement K p__law_next p__law_any_condition p__law_any_block p__law_any_call p__law_name p__law_any_expression, PSs.nox (de__law_any_statement T hr h__law_next h__law_any_condition h__law_any_block h__law_any_call h__law_name h__law_any_expression), pure_ vs H Q E h⟩, FunD.bindsN F (ps := a__law_any_statement) (fun _ _ _ _ _ _ us hl => match us, hl with | [_, _, _], _ => rfl), F.kp, m⟩
theorem de__law_statement_words {P : Program} {w : World} {K : PySem.W.Frag} {mg : Str → Option Value} {base : Heap} {k : Nat} {f : Addr} {cdv : Value} {A : Around} {outer : List Env} {s : Shared} {H : Hp} {E : XK} {p__law_expression_words p__law_condition_words p__law_listed p__law_block_words : Sp} (T : GF K mg) (hr : Room k (A.deeper (envOfC "_law_statement_words" (defScope s__law_statement_words) s.heap.objs.size f cdv))) (h__law_expression_words : Has P w K mg base k "_law_expression_words" a__law_expression_words p__law_expression_words) (h__law_condition_words : Has P w K mg base k "_law_condition_words" a__law_condition_words p__law_condition_words) (h__law_listed : Has P w K mg base k "_law_listed" a__law_listed p__law_listed) (h__law_block_words : Has P w K mg base k "_law_block_words" a__law_block_words p__law_block_words) :
    PSs (cxOf CX0 P w K mg base n__law_statement_words "_law_statement_words" (defScope s__law_statement_words) f cdv A outer s H E).nox (defBody s__law_statement_words) (t__law_statement_words K p__law_expression_words p__law_condition_words p__law_listed p__law_block_words) := by
  obtain ⟨fd__law_expression_words, G__law_expression_words, b__law_expression_words, k__law_expression_words, m__law_expression_words⟩ := h__law_expression_words
  obtain ⟨fd__law_condition_words, G__law_condition_words, b__law_condition_words, k__law_condition_words, m__law_condition_words⟩ := h__law_condition_words
  obtain ⟨fd__law_listed, G__law_listed, b__law_listed, k__law_listed, m__law_listed⟩ := h__law_listed
  obtain ⟨fd__law_block_words, G__law_block_words, b__law_block_words, k__law_block_words, m__law_block_words⟩ := h__law_block_words
  exact (pss_cons (ps_set (i := 1) (sc__law_statement_words).nd rfl (Or.inl rfl) (pe_ix ix_tup (pv 0) pe_int (fun _ _ => rfl)))
    (pss_cons (ps_if (pt_cmpR op_eq (pv 1) (pe_lit l16) (nomark _)) (pss_one (ps_ret (pe_op op_cat (pe_op op_cat (pe_lst (pa_cons (pe_ix ix_tup (pv 0) pe_int (fun _ _ => rfl)) (pa_cons (pe_lit l44) pa_nil))) (pe_call G__law_expression_words hr rfl m__law_expression_words k__law_expression_words b__law_expression_words .nil pass0 (pa_cons (pe_ix ix_tup (pv 0) pe_int (fun _ _ => rfl)) pa_nil))) (pe_lst (pa_cons (pe_lit l0) pa_nil))))) pss_nil)
    (pss_cons (ps_if (pt_cmpR op_eq (pv 1) (pe_lit l18) (nomark _)) (pss_one (ps_ret (pe_lst (pa_cons (pe_lit l18) (pa_cons (pe_ix ix_tup (pv 0) pe_int (fun _ _ => rfl)) (pa_cons (pe_lit l0) pa_nil)))))) pss_nil)
    (pss_cons (ps_if (pt_cmpR op_in_seq (pv 1) (pe_tup (pa_cons (pe_lit l43) (pa_cons (pe_lit l42) pa_nil))) rfl) (pss_one (ps_ret (pe_op op_cat (pe_op op_cat (pe_lst (pa_cons (pv 1) pa_nil)) (pe_call G__law_expression_words hr rfl m__law_expression_words k__law_expression_words b__law_expression_words .nil pass0 (pa_cons (pe_ix ix_tup (pv 0) pe_int (fun _ _ => rfl)) pa_nil))) (pe_lst (pa_cons (pe_lit l0) pa_nil))))) pss_nil)
    (pss_cons (ps_if (pt_cmpR op_in_seq (pv 1) (pe_tup (pa_cons (pe_lit l21) (pa_cons (pe_lit l20) pa_nil))) rfl) (pss_one (ps_ret (pe_op op_cat (pe_op op_cat (pe_lst (pa_cons (pv 1) pa_nil)) (pe_call G__law_condition_words hr rfl m__law_condition_words k__law_condition_words b__law_condition_words .nil pass0 (pa_cons (pe_ix ix_tup (pv 0) pe_int (fun _ _ => rfl)) pa_nil))) (pe_lst (pa_cons (pe_lit l0) pa_nil))))) pss_nil)
    (pss_cons (ps_if (pt_cmpR op_eq (pv 1) (pe_lit l23) (nomark _)) (pss_cons (ps_set (i := 2) (sc__law_statement_words).nd rfl (Or.inl rfl) (pe_op op_cat (pe_op op_cat (pe_lst (pa_cons (pe_lit l23) (pa_cons (pe_ix ix_tup (pv 0) pe_int (fun _ _ => rfl)) (pa_cons (pe_lit l3) pa_nil)))) (pe_call G__law_listed hr rfl m__law_listed k__law_listed b__law_listed .nil pass0 (pa_cons (pe_lc (own := [("_law_value", 3)]) (g := gName 3) (tt := tYes) rfl (sc__law_statement_words).nd (pi_tup (pe_ix ix_tup (pv 0) pe_int (fun _ _ => rfl))) (blkOk_by (own := [("_law_value", 3)]) (N := n__law_statement_words) (sc := defScope s__law_statement_words) (by decide +kernel)) (fun _ _ _ _ _ => pg_name (i := 3) (sc__law_statement_words).nd rfl (Or.inl rfl)) (fun _ _ _ _ _ => pts_nil) (fun _ _ _ _ _ => (pe_call G__law_expression_words hr rfl m__law_expression_words k__law_expression_words b__law_expression_words .nil pass0 (pa_cons (pv 3) pa_nil)))) pa_nil))) (pe_lst (pa_cons (pe_lit l26) pa_nil))))
    (pss_cons (ps_if (pt_cmpR op_notN (pe_ix ix_tup (pv 0) pe_int (fun _ _ => rfl)) pe_non (nomark _)) (pss_one (ps_set (i := 2) (sc__law_statement_words).nd rfl (Or.inl rfl) (pe_op op_cat (pv 2) (pe_lst (pa_cons (pe_lit l46) (pa_cons (pe_ix ix_tup (pv 0) pe_int (fun _ _ => rfl)) pa_nil)))))) pss_nil)
    (pss_one (ps_ret (pe_op op_cat (pv 2) (pe_lst (pa_cons (pe_lit l0) pa_nil))))))) pss_nil)
    (pss_cons (ps_set (i := 2) (sc__law_statement_words).nd rfl (Or.inl rfl) (pe_op op_cat (pe_op op_cat (pe_lst (pa_cons (pv 1) pa_nil)) (pe_call G__law_condition_words hr rfl m__law_condition_words k__law_condition_words b__law_condition_words .nil pass0 (pa_cons (pe_ix ix_tup (pv 0) pe_int (fun _ _ => rfl)) pa_nil))) (pe_call G__law_block_words hr rfl m__law_block_words k__law_block_words b__law_block_words .nil pass0 (pa_cons (pe_ix ix_tup (pv 0) pe_int (fun _ _ => rfl)) pa_nil))))
    (pss_cons (ps_if (PW.pt (pw_and (pt_cmpR op_eq (pv 1) (pe_lit l10) (nomark _)) (pw_and1 (pt_cmpR (op_neD hr.units) (pe_ix ix_tup (pv 0) pe_int (fun _ _ => rfl)) (pe_tup pa_nil) (nomark _))))) (pss_one (ps_set (i := 2) (sc__law_statement_words).nd rfl (Or.inl rfl) (pe_op op_cat (pe_op op_cat (pv 2) (pe_lst (pa_cons (pe_lit l45) pa_nil))) (pe_call G__law_block_words hr rfl m__law_block_words k__law_block_words b__law_block_words .nil pass0 (pa_cons (pe_ix ix_tup (pv 0) pe_int (fun _ _ => rfl)) pa_nil))))) pss_nil)
    (pss_one (ps_ret (pv 2)))))))))))
theorem ok__law_statement_words {P : Program} {w : World} {K : PySem.W.Frag} {mg : Str → Option Value} {base : Heap} {k : Nat} {p__law_expression_words p__law_condition_words p__law_listed p__law_block_words : Sp} {sp : Sp} (T : GF K mg) (F : ∃ fd, FunD K "_law_statement_words" "_law_statement_words" (defArgs s__law_statement_words) (defBody s__law_statement_words) (defScope s__law_statement_words) [] [] (He.ga K "_law_statement_words") fd) (m : mg "_law_statement_words" = some (.ref (He.ga K "_law_statement_words"))) (h__law_expression_words : Has P w K mg base k "_law_expression_words" a__law_expression_words p__law_expression_words) (h__law_condition_words : Has P w K mg base k "_law_condition_words" a__law_condition_words p__law_condition_words) (h__law_listed : Has P w K mg base k "_law_listed" a__law_listed p__law_listed) (h__law_block_words : Has P w K mg base k "_law_block_words" a__law_block_words p__law_block_words)
    (len : ∀ vs H Q E, sp vs H Q E → vs.length = (a__law_statement_words).length) (pure_ : ∀ vs H Q E, sp vs H Q E → t__law_statement_words K p__law_expression_words p__law_condition_words p__law_listed p__law_block_words { nx := fun _ H' => Q .non H', rt := Q } (start n__law_statement_words vs) H) :
    Has P w K mg base (k + 1) "_law_statement_words" a__law_statement_words sp := by
  obtain ⟨fd, F⟩ := F
  exact ⟨fd, FunD.ok F sc__law_statement_words len fun cdv A outer s H vs Q E hr h => ⟨t__law_statement_words K p__law_expression_words p__law_condition_words p__law_listed p__law_block_words, PSs.nox (de__law_statement_words T hr h__law_expression_words h__law_condition_words h__law_listed h__law_block_words), pure_ vs H Q E h⟩, FunD.bindsN F (ps := a__law_statement_words) (fun _ _ _ _ _ _ us hl => match us, hl with | [_], _ => rfl), F.kp, m⟩
theorem de__law_text {P : Program} {w : World} {K : PySem.W.Frag} {mg : Str → Option Value} {base : Heap} {k : Nat} {f : Addr} {cdv : Value} {A : Around} {outer : List Env} {s : Shared} {H : Hp} {E : XK} {p__law_line : Sp} (T : GF K mg) (hr : Room k (A.deeper (envOfC "_law_text" (defScope s__law_text) s.heap.objs.size f cdv))) (h__law_line : Has P w K mg base k "_law_line" a__law_line p__law_line) :
    PSs (cxOf CX0 P w K mg base n__law_text "_law_text" (defScope s__law_text) f cdv A outer s H E).nox (defBody s__law_text) (t__law_text K p__law_line) := by
  obtain ⟨fd__law_line, G__law_line, b__law_line, k__law_line, m__law_line⟩ := h__law_line
  exact (pss_cons (ps_set (i := 1) (sc__law_text).nd rfl (Or.inl rfl) (pe_lit l8))
    (pss_cons (ps_set (i := 2) (sc__law_text).nd rfl (Or.inl rfl) pe_int)
    (pss_cons (ps_set (i := 3) (sc__law_text).nd rfl (Or.inl rfl) (pe_lst pa_nil))
    (pss_cons (ps_for PassesOwn.never rfl (pi_range1 rfl T.range (pa_cons (pe_callB call_len_seq rfl T.len boot_len (pa_cons (pv 0) pa_nil)) pa_nil)) (pg_name (i := 4) (sc__law_text).nd rfl (Or.inl rfl)) (pss_cons (ps_set (i := 5) (sc__law_text).nd rfl (Or.inl rfl) (pe_ix ix_list (pv 0) (pv 4) (fun _ _ => rfl)))
    (pss_cons (ps_if (pt_cmpR op_eq (pv 5) (pe_lit l7) (nomark _)) (pss_one (ps_set (i := 2) (sc__law_text).nd rfl (Or.inl rfl) (pe_op op_sub (pv 2) pe_int))) pss_nil)
    (pss_cons (ps_expr (pe_bm PySem.F.plainAttrs_list PySem.F.slot_list_append PySem.F.type_list_append mt_append (pv 3) (pa_cons (pv 5) pa_nil)))
    (pss_cons (ps_set (i := 6) (sc__law_text).nd rfl (Or.inl rfl) (pe_ifExp (pt_cmpR op_lt (pe_op op_add (pv 4) pe_int) (pe_callB call_len_seq rfl T.len boot_len (pa_cons (pv 0) pa_nil)) (nomark _)) (pe_ix ix_list (pv 0) (pe_op op_add (pv 4) pe_int) (fun _ _ => rfl)) (pe_lit l8)))
    (pss_cons (ps_set (i := 7) (sc__law_text).nd rfl (Or.inl rfl) (pe_or (pe_cmpR op_in_seq (pv 5) (pe_tup (pa_cons (pe_lit l0) (pa_cons (pe_lit l41) pa_nil))) rfl) (pe_one (pe_and (pe_cmpR op_eq (pv 5) (pe_lit l7) (nomark _)) (pe_one (pe_cmpR op_ne (pv 6) (pe_lit l45) (nomark _)))))))
    (pss_cons (ps_if (PW.pt (pw_and (pt_cmpR op_eq (pv 5) (pe_lit l7) (nomark _)) (pw_and1 (pt_cmpR op_eq (pv 6) (pe_lit l45) (nomark _))))) (pss_one (ps_set (i := 3) (sc__law_text).nd rfl (Or.inl rfl) (pe_lst (pa_cons (pe_lit l7) pa_nil)))) pss_nil)
    (pss_cons (ps_if (pt_val (pv 7)) (pss_cons (ps_set (i := 8) (sc__law_text).nd rfl (Or.inl rfl) (pv 2))
    (pss_cons (ps_set (i := 1) (sc__law_text).nd rfl (Or.inl rfl) (pe_op op_add_str (pe_op op_add_str (pe_op op_add_str (pv 1) (pe_op op_repS (pe_lit l6) (pv 8))) (pe_call G__law_line hr rfl m__law_line k__law_line b__law_line .nil pass0 (pa_cons (pv 3) pa_nil))) (pe_lit l9)))
    (pss_one (ps_set (i := 3) (sc__law_text).nd rfl (Or.inl rfl) (pe_lst pa_nil))))) pss_nil)
    (pss_one (ps_if (pt_cmpR op_eq (pv 5) (pe_lit l41) (nomark _)) (pss_one (ps_set (i := 2) (sc__law_text).nd rfl (Or.inl rfl) (pe_op op_add (pv 2) pe_int))) pss_nil))))))))))
    (pss_one (ps_ret (pv 1)))))))
theorem ok__law_text {P : Program} {w : World} {K : PySem.W.Frag} {mg : Str → Option Value} {base : Heap} {k : Nat} {p__law_line : Sp} {sp : Sp} (T : GF K mg) (F : ∃ fd, FunD K "_law_text" "_law_text" (defArgs s__law_text) (defBody s__law_text) (defScope s__law_text) [] [] (He.ga K "_law_text") fd) (m : mg "_law_text" = some (.ref (He.ga K "_law_text"))) (h__law_line : Has P w K mg base k "_law_line" a__law_line p__law_line)
    (len : ∀ vs H Q E, sp vs H Q E → vs.length = (a__law_text).length) (pure_ : ∀ vs H Q E, sp vs H Q E → t__law_text K p__law_line { nx := fun _ H' => Q .non H', rt := Q } (start n__law_text vs) H) :
    Has P w K mg base (k + 1) "_law_text" a__law_text sp := by
  obtain ⟨fd, F⟩ := F
  exact ⟨fd, FunD.ok F sc__law_text len fun cdv A outer s H vs Q E hr h => ⟨t__law_text K p__law_line, PSs.nox (de__law_text T hr h__law_line), pure_ vs H Q E h⟩, FunD.bindsN F (ps := a__law_text) (fun _ _ _ _ _ _ us hl => match us, hl with | [_], _ => rfl), F.kp, m⟩
end Cc
end
section
namespace Cc
open PySem PySem.Spec PyProof.Rows L2
theorem de_statement_lines {P : Program} {w : World} {K : PySem.W.Frag} {mg : Str → Option Value} {base : Heap} {k : Nat} {f : Addr} {cdv : Value} {A : Around} {outer : List Env} {s : Shared} {H : Hp} {E : XK} {p_condition_text p_block_lines p_simple_text : Sp} (T : GF K mg) (hr : Room k (A.deeper (envOfC "statement_lines" (defScope s_statement_lines) s.heap.objs.size f cdv))) (h_condition_text : Has P w K mg base k "condition_text" a_condition_text p_condition_text) (h_block_lines : Has P w K mg base k "block_lines" a_block_lines p_block_lines) (h_simple_text : Has P w K mg base k "simple_text" a_simple_text p_simple_text) :
    PSs (cxOf CX0 P w K mg base n_statement_lines "statement_lines" (defScope s_statement_lines) f cdv A outer s H E).nox (defBody s_statement_lines) (t_statement_lines K p_condition_text p_block_lines p_simple_text) := by
  obtain ⟨fd_condition_text, G_condition_text, b_condition_text, k_condition_text, m_condition_text⟩ := h_condition_text
  obtain ⟨fd_block_lines, G_block_lines, b_block_lines, k_block_lines, m_block_lines⟩ := h_block_lines
  obtain ⟨fd_simple_text, G_simple_text, b_simple_text, k_simple_text, m_simple_text⟩ := h_simple_text
  exact (pss_cons (ps_set (i := 2) (sc_statement_lines).nd rfl (Or.inl rfl) (pe_ix ix_tup (pv 0) pe_int (fun _ _ => rfl)))
    (pss_cons (ps_set (i := 3) (sc_statement_lines).nd rfl (Or.inl rfl) (pe_op op_add_str (pv 1) (pe_lit l6)))
    (pss_cons (ps_if (pt_cmpR op_eq (pv 2) (pe_lit l10) (nomark _)) (pss_cons (ps_set (i := 4) (sc_statement_lines).nd rfl (Or.inl rfl) (pe_lst (pa_cons (pe_op op_add_str (pe_op op_add_str (pe_op op_add_str (pv 1) (pe_lit l11)) (pe_call G_condition_text hr rfl m_condition_text k_condition_text b_condition_text .nil pass0 (pa_cons (pe_ix ix_tup (pv 0) pe_int (fun _ _ => rfl)) pa_nil))) (pe_lit l12)) pa_nil)))
    (pss_cons (ps_expr (pe_bm PySem.F.plainAttrs_list PySem.F.slot_list_extend PySem.F.type_list_extend mt_extend (pv 4) (pa_cons (pe_call G_block_lines hr rfl m_block_lines k_block_lines b_block_lines .nil pass0 (pa_cons (pe_ix ix_tup (pv 0) pe_int (fun _ _ => rfl)) (pa_cons (pv 3) pa_nil))) pa_nil)))
    (pss_cons (ps_if (pt_cmpR (op_neD hr.units) (pe_ix ix_tup (pv 0) pe_int (fun _ _ => rfl)) (pe_tup pa_nil) (nomark _)) (pss_cons (ps_expr (pe_bm PySem.F.plainAttrs_list PySem.F.slot_list_append PySem.F.type_list_append mt_append (pv 4) (pa_cons (pe_op op_add_str (pv 1) (pe_lit l13)) pa_nil)))
    (pss_one (ps_expr (pe_bm PySem.F.plainAttrs_list PySem.F.slot_list_extend PySem.F.type_list_extend mt_extend (pv 4) (pa_cons (pe_call G_block_lines hr rfl m_block_lines k_block_lines b_block_lines .nil pass0 (pa_cons (pe_ix ix_tup (pv 0) pe_int (fun _ _ => rfl)) (pa_cons (pv 3) pa_nil))) pa_nil))))) pss_nil)
    (pss_one (ps_ret (pe_op op_cat (pv 4) (pe_lst (pa_cons (pe_op op_add_str (pv 1) (pe_lit l7)) pa_nil)))))))) pss_nil)
    (pss_cons (ps_if (pt_cmpR op_eq (pv 2) (pe_lit l14) (nomark _)) (pss_cons (ps_set (i := 4) (sc_statement_lines).nd rfl (Or.inl rfl) (pe_lst (pa_cons (pe_op op_add_str (pe_op op_add_str (pe_op op_add_str (pv 1) (pe_lit l15)) (pe_call G_condition_text hr rfl m_condition_text k_condition_text b_condition_text .nil pass0 (pa_cons (pe_ix ix_tup (pv 0) pe_int (fun _ _ => rfl)) pa_nil))) (pe_lit l12)) pa_nil)))
    (pss_cons (ps_expr (pe_bm PySem.F.plainAttrs_list PySem.F.slot_list_extend PySem.F.type_list_extend mt_extend (pv 4) (pa_cons (pe_call G_block_lines hr rfl m_block_lines k_block_lines b_block_lines .nil pass0 (pa_cons (pe_ix ix_tup (pv 0) pe_int (fun _ _ => rfl)) (pa_cons (pv 3) pa_nil))) pa_nil)))
    (pss_one (ps_ret (pe_op op_cat (pv 4) (pe_lst (pa_cons (pe_op op_add_str (pv 1) (pe_lit l7)) pa_nil))))))) pss_nil)
    (pss_one (ps_ret (pe_lst (pa_cons (pe_op op_add_str (pe_op op_add_str (pv 1) (pe_call G_simple_text hr rfl m_simple_text k_simple_text b_simple_text .nil pass0 (pa_cons (pv 0) pa_nil))) (pe_lit l0)) pa_nil))))))))
theorem ok_statement_lines {P : Program} {w : World} {K : PySem.W.Frag} {mg : Str → Option Value} {base : Heap} {k : Nat} {p_condition_text p_block_lines p_simple_text : Sp} {sp : Sp} (T : GF K mg) (F : ∃ fd, FunD K "statement_lines" "statement_lines" (defArgs s_statement_lines) (defBody s_statement_lines) (defScope s_statement_lines) [] [] (He.ga K "statement_lines") fd) (m : mg "statement_lines" = some (.ref (He.ga K "statement_lines"))) (h_condition_text : Has P w K mg base k "condition_text" a_condition_text p_condition_text) (h_block_lines : Has P w K mg base k "block_lines" a_block_lines p_block_lines) (h_simple_text : Has P w K mg base k "simple_text" a_simple_text p_simple_text)
    (len : ∀ vs H Q E, sp vs H Q E → vs.length = (a_statement_lines).length) (pure_ : ∀ vs H Q E, sp vs H Q E → t_statement_lines K p_condition_text p_block_lines p_simple_text { nx := fun _ H' => Q .non H', rt := Q } (start n_statement_lines vs) H) :
    Has P w K mg base (k + 1) "statement_lines" a_statement_lines sp := by
  obtain ⟨fd, F⟩ := F
  exact ⟨fd, FunD.ok F sc_statement_lines len fun cdv A outer s H vs Q E hr h => ⟨t_statement_lines K p_condition_text p_block_lines p_simple_text, PSs.nox (de_statement_lines T hr h_condition_text h_block_lines h_simple_text), pure_ vs H Q E h⟩, FunD.bindsN F (ps := a_statement_lines) (fun _ _ _ _ _ _ us hl => match us, hl with | [_, _], _ => rfl), F.kp, m⟩
theorem de_end_of {P : Program} {w : World} {K : PySem.W.Frag} {mg : Str → Option Value} {base : Heap} {k : Nat} {f : Addr} {cdv : Value} {A : Around} {outer : List Env} {s : Shared} {H : Hp} {E : XK} (T : GF K mg) (hr : Room k (A.deeper (envOfC "end_of" (defScope s_end_of) s.heap.objs.size f cdv))) :
    PSs (cxOf CX0 P w K mg base n_end_of "end_of" (defScope s_end_of) f cdv A outer s H E).nox (defBody s_end_of) (t_end_of K ) := by
  exact (pss_cons (ps_set (i := 3) (sc_end_of).nd rfl (Or.inl rfl) (pv 1))
    (pss_cons (ps_while PassesOwn.never (PW.pt (pw_and (pt_cmpR op_lt (pv 3) (pe_callB call_len_str rfl T.len boot_len (pa_cons (pv 0) pa_nil)) (nomark _)) (pw_and1 (pt_cmpR op_in_sign (pe_ix ix_str (pv 0) (pv 3) (fun _ _ => rfl)) (pv 2) rfl)))) (pss_one (ps_set (i := 3) (sc_end_of).nd rfl (Or.inl rfl) (pe_op op_add (pv 3) pe_int))))
    (pss_one (ps_ret (pv 3)))))
theorem ok_end_of {P : Program} {w : World} {K : PySem.W.Frag} {mg : Str → Option Value} {base : Heap} {k : Nat} {sp : Sp} (T : GF K mg) (F : ∃ fd, FunD K "end_of" "end_of" (defArgs s_end_of) (defBody s_end_of) (defScope s_end_of) [] [] (He.ga K "end_of") fd) (m : mg "end_of" = some (.ref (He.ga K "end_of")))
    (len : ∀ vs H Q E, sp vs H Q E → vs.length = (a_end_of).length) (pure_ : ∀ vs H Q E, sp vs H Q E → t_end_of K  { nx := fun _ H' => Q .non H', rt := Q } (start n_end_of vs) H) :
    Has P w K mg base (k + 1) "end_of" a_end_of sp := by
  obtain ⟨fd, F⟩ := F
  exact ⟨fd, FunD.ok F sc_end_of len fun cdv A outer s H vs Q E hr h => ⟨t_end_of K , PSs.nox (de_end_of T hr), pure_ vs H Q E h⟩, FunD.bindsN F (ps := a_end_of) (fun _ _ _ _ _ _ us hl => match us, hl with | [_, _, _], _ => rfl), F.kp, m⟩
theorem de_Reader_is_sign {P : Program} {w : World} {K : PySem.W.Frag} {mg : Str → Option Value} {base : Heap} {k : Nat} {f : Addr} {cdv : Value} {A : Around} {outer : List Env} {s : Shared} {H : Hp} {E : XK} {p_kind p_value : Sp} (T : GF K mg) (hr : Room k (A.deeper (envOfC "Reader.is_sign" (defScope s_Reader_is_sign) s.heap.objs.size f cdv))) (h_kind : HasM P w K mg base k "kind" a_Reader_kind p_kind) (h_value : HasM P w K mg base k "value" a_Reader_value p_value) :
    PSs (cxOf CX0 P w K mg base n_Reader_is_sign "Reader.is_sign" (defScope s_Reader_is_sign) f cdv A outer s H E).nox (defBody s_Reader_is_sign) (t_Reader_is_sign K p_kind p_value) := by
  obtain ⟨fd_kind, G_kind, b_kind, M_kind⟩ := h_kind
  obtain ⟨fd_value, G_value, b_value, M_value⟩ := h_value
  exact (pss_one (ps_ret (pe_and (pe_cmpR op_eq (pe_meth0 (pv 0) T.clR M_kind G_kind hr b_kind .nil pass0) (pe_lit l36) (nomark _)) (pe_one (pe_cmpR op_eq (pe_meth0 (pv 0) T.clR M_value G_value hr b_value .nil pass0) (pv 1) (nomark _))))))
theorem ok_Reader_is_sign {P : Program} {w : World} {K : PySem.W.Frag} {mg : Str → Option Value} {base : Heap} {k : Nat} {p_kind p_value : Sp} {sp : Sp} (T : GF K mg) (F : ∃ fd, FunD K "is_sign" "Reader.is_sign" (defArgs s_Reader_is_sign) (defBody s_Reader_is_sign) (defScope s_Reader_is_sign) [] [] (He.ma K (He.ga K "Reader") "is_sign") fd) (M : Meth K (He.ga K "Reader") "is_sign" (He.ma K (He.ga K "Reader") "is_sign")) (h_kind : HasM P w K mg base k "kind" a_Reader_kind p_kind) (h_value : HasM P w K mg base k "value" a_Reader_value p_value)
    (len : ∀ vs H Q E, sp vs H Q E → vs.length = (a_Reader_is_sign).length) (pure_ : ∀ vs H Q E, sp vs H Q E → t_Reader_is_sign K p_kind p_value { nx := fun _ H' => Q .non H', rt := Q } (start n_Reader_is_sign vs) H) :
    HasM P w K mg base (k + 1) "is_sign" a_Reader_is_sign sp := by
  obtain ⟨fd, F⟩ := F
  exact ⟨fd, FunD.ok F sc_Reader_is_sign len fun cdv A outer s H vs Q E hr h => ⟨t_Reader_is_sign K p_kind p_value, PSs.nox (de_Reader_is_sign T hr h_kind h_value), pure_ vs H Q E h⟩, FunD.bindsN F (ps := a_Reader_is_sign) (fun _ _ _ _ _ _ us hl => match us, hl with | [_, _], _ => rfl), M⟩
theorem de_parse {P : Program} {w : World} {K : PySem.W.Frag} {mg : Str → Option Value} {base : Heap} {k : Nat} {k2 : Nat} (le2 : k2 + 1 ≤ k) {f : Addr} {cdv : Value} {A : Around} {outer : List Env} {s : Shared} {H : Hp} {E : XK} {p_read_names p_read_block p_init p_is_word p_step p_need_name p_need_sign p_kind p_need_word : Sp} (T : GF K mg) (hr : Room k (A.deeper (envOfC "parse" (defScope s_parse) s.heap.objs.size f cdv))) (h_read_names : Has P w K mg base k "read_names" a_read_names p_read_names) (h_read_block : Has P w K mg base k "read_block" a_read_block p_read_block) (h_init : HasI P w K mg base k2 a_Reader_init p_init) (h_is_word : HasM P w K mg base k "is_word" a_Reader_is_word p_is_word) (h_step : HasM P w K mg base k "step" a_Reader_step p_step) (h_need_name : HasM P w K mg base k "need_name" a_Reader_need_name p_need_name) (h_need_sign : HasM P w K mg base k "need_sign" a_Reader_need_sign p_need_sign) (h_kind : HasM P w K mg base k "kind" a_Reader_kind p_kind) (h_need_word : HasM P w K mg base k "need_word" a_Reader_need_word p_need_word) :
    PSs (cxOf CX0 P w K mg base n_parse "parse" (defScope s_parse) f cdv A outer s H E).nox (defBody s_parse) (t_parse K p_read_names p_read_block p_init p_is_word p_step p_need_name p_need_sign p_kind p_need_word) := by
  obtain ⟨fd_read_names, G_read_names, b_read_names, k_read_names, m_read_names⟩ := h_read_names
  obtain ⟨fd_read_block, G_read_block, b_read_block, k_read_block, m_read_block⟩ := h_read_block
  obtain ⟨fd_init, G_init, b_init⟩ := h_init
  obtain ⟨fd_is_word, G_is_word, b_is_word, M_is_word⟩ := h_is_word
  obtain ⟨fd_step, G_step, b_step, M_step⟩ := h_step
  obtain ⟨fd_need_name, G_need_name, b_need_name, M_need_name⟩ := h_need_name
  obtain ⟨fd_need_sign, G_need_sign, b_need_sign, M_need_sign⟩ := h_need_sign
  obtain ⟨fd_kind, G_kind, b_kind, M_kind⟩ := h_kind
  obtain ⟨fd_need_word, G_need_word, b_need_word, M_need_word⟩ := h_need_word
  have hr2 : Room (k2 + 1) (A.deeper (envOfC "parse" (defScope s_parse) s.heap.objs.size f cdv)) := hr.mono le2
  exact (pss_cons (ps_set (i := 1) (sc_parse).nd rfl (Or.inl rfl) (pe_make T.mkR G_init hr2 rfl T.Reader b_init .nil pass0 (pa_cons (pv 0) pa_nil)))
    (pss_cons (ps_set (i := 2) (sc_parse).nd rfl (Or.inl rfl) (pe_lst pa_nil))
    (pss_cons (ps_while PassesOwn.never (pt_val (pe_meth (pv 1) T.clR M_is_word G_is_word hr b_is_word .nil pass0 (pa_cons (pe_lit l38) pa_nil))) (pss_cons (ps_expr (pe_meth0 (pv 1) T.clR M_step G_step hr b_step .nil pass0))
    (pss_cons (ps_expr (pe_bm PySem.F.plainAttrs_list PySem.F.slot_list_append PySem.F.type_list_append mt_append (pv 2) (pa_cons (pe_meth0 (pv 1) T.clR M_need_name G_need_name hr b_need_name .nil pass0) pa_nil)))
    (pss_one (ps_expr (pe_meth (pv 1) T.clR M_need_sign G_need_sign hr b_need_sign .nil pass0 (pa_cons (pe_lit l0) pa_nil)))))))
    (pss_cons (ps_set (i := 3) (sc_parse).nd rfl (Or.inl rfl) (pe_lst pa_nil))
    (pss_cons (ps_while PassesOwn.never (pt_cmpR op_ne (pe_meth0 (pv 1) T.clR M_kind G_kind hr b_kind .nil pass0) (pe_lit l8) (nomark _)) (pss_cons (ps_expr (pe_meth (pv 1) T.clR M_need_word G_need_word hr b_need_word .nil pass0 (pa_cons (pe_lit l39) pa_nil)))
    (pss_cons (ps_set (i := 4) (sc_parse).nd rfl (Or.inl rfl) (pe_meth0 (pv 1) T.clR M_need_name G_need_name hr b_need_name .nil pass0))
    (pss_cons (ps_set (i := 5) (sc_parse).nd rfl (Or.inl rfl) (pe_call G_read_names hr rfl m_read_names k_read_names b_read_names .nil pass0 (pa_cons (pv 1) pa_nil)))
    (pss_one (ps_expr (pe_bm PySem.F.plainAttrs_list PySem.F.slot_list_append PySem.F.type_list_append mt_append (pv 3) (pa_cons (pe_tup (pa_cons (pv 4) (pa_cons (pv 5) (pa_cons (pe_call G_read_block hr rfl m_read_block k_read_block b_read_block .nil pass0 (pa_cons (pv 1) pa_nil)) pa_nil)))) pa_nil))))))))
    (pss_one (ps_ret (pe_tup (pa_cons (pe_callTy call_tuple_of rfl T.tuple_ (by decide +kernel) (pa_cons (pv 2) pa_nil)) (pa_cons (pe_callTy call_tuple_of rfl T.tuple_ (by decide +kernel) (pa_cons (pv 3) pa_nil)) pa_nil))))))))))
theorem ok_parse {P : Program} {w : World} {K : PySem.W.Frag} {mg : Str → Option Value} {base : Heap} {k : Nat} {k2 : Nat} (le2 : k2 + 1 ≤ k) {p_read_names p_read_block p_init p_is_word p_step p_need_name p_need_sign p_kind p_need_word : Sp} {sp : Sp} (T : GF K mg) (F : ∃ fd, FunD K "parse" "parse" (defArgs s_parse) (defBody s_parse) (defScope s_parse) [] [] (He.ga K "parse") fd) (m : mg "parse" = some (.ref (He.ga K "parse"))) (h_read_names : Has P w K mg base k "read_names" a_read_names p_read_names) (h_read_block : Has P w K mg base k "read_block" a_read_block p_read_block) (h_init : HasI P w K mg base k2 a_Reader_init p_init) (h_is_word : HasM P w K mg base k "is_word" a_Reader_is_word p_is_word) (h_step : HasM P w K mg base k "step" a_Reader_step p_step) (h_need_name : HasM P w K mg base k "need_name" a_Reader_need_name p_need_name) (h_need_sign : HasM P w K mg base k "need_sign" a_Reader_need_sign p_need_sign) (h_kind : HasM P w K mg base k "kind" a_Reader_kind p_kind) (h_need_word : HasM P w K mg base k "need_word" a_Reader_need_word p_need_word)
    (len : ∀ vs H Q E, sp vs H Q E → vs.length = (a_parse).length) (pure_ : ∀ vs H Q E, sp vs H Q E → t_parse K p_read_names p_read_block p_init p_is_word p_step p_need_name p_need_sign p_kind p_need_word { nx := fun _ H' => Q .non H', rt := Q } (start n_parse vs) H) :
    Has P w K mg base (k + 1) "parse" a_parse sp := by
  obtain ⟨fd, F⟩ := F
  exact ⟨fd, FunD.ok F sc_parse len fun cdv A outer s H vs Q E hr h => ⟨t_parse K p_read_names p_read_block p_init p_is_word p_step p_need_name p_need_sign p_kind p_need_word, PSs.nox (de_parse le2 T hr h_read_names h_read_block h_init h_is_word h_step h_need_name h_need_sign h_kind h_need_word), pure_ vs H Q E h⟩, FunD.bindsN F (ps := a_parse) (fun _ _ _ _ _ _ us hl => match us, hl with | [_], _ => rfl), F.kp, m⟩
theorem de_read_expression {P : Program} {w : World} {K : PySem.W.Frag} {mg : Str → Option Value} {base : Heap} {k : Nat} {f : Addr} {cdv : Value} {A : Around} {outer : List Env} {s : Shared} {H : Hp} {E : XK} {p_read_expression p_read_number p_is_sign p_step p_kind p_value p_need_word p_need_sign p_need_name : Sp} (T : GF K mg) (hr : Room k (A.deeper (envOfC "read_expression" (defScope s_read_expression) s.heap.objs.size f cdv))) (h_read_expression : Has P w K mg base k "read_expression" a_read_expression p_read_expression) (h_read_number : Has P w K mg base k "read_number" a_read_number p_read_number) (h_is_sign : HasM P w K mg base k "is_sign" a_Reader_is_sign p_is_sign) (h_step : HasM P w K mg base k "step" a_Reader_step p_step) (h_kind : HasM P w K mg base k "kind" a_Reader_kind p_kind) (h_value : HasM P w K mg base k "value" a_Reader_value p_value) (h_need_word : HasM P w K mg base k "need_word" a_Reader_need_word p_need_word) (h_need_sign : HasM P w K mg base k "need_sign" a_Reader_need_sign p_need_sign) (h_need_name : HasM P w K mg base k "need_name" a_Reader_need_name p_need_name) :
    PSs (cxOf CX0 P w K mg base n_read_expression "read_expression" (defScope s_read_expression) f cdv A outer s H E).nox (defBody s_read_expression) (t_read_expression K p_read_expression p_read_number p_is_sign p_step p_kind p_value p_need_word p_need_sign p_need_name) := by
  obtain ⟨fd_read_expression, G_read_expression, b_read_expression, k_read_expression, m_read_expression⟩ := h_read_expression
  obtain ⟨fd_read_number, G_read_number, b_read_number, k_read_number, m_read_number⟩ := h_read_number
  obtain ⟨fd_is_sign, G_is_sign, b_is_sign, M_is_sign⟩ := h_is_sign
  obtain ⟨fd_step, G_step, b_step, M_step⟩ := h_step
  obtain ⟨fd_kind, G_kind, b_kind, M_kind⟩ := h_kind
  obtain ⟨fd_value, G_value, b_value, M_value⟩ := h_value
  obtain ⟨fd_need_word, G_need_word, b_need_word, M_need_word⟩ := h_need_word
  obtain ⟨fd_need_sign, G_need_sign, b_need_sign, M_need_sign⟩ := h_need_sign
  obtain ⟨fd_need_name, G_need_name, b_need_name, M_need_name⟩ := h_need_name
  exact (pss_cons (ps_if (pt_val (pe_meth (pv 0) T.clR M_is_sign G_is_sign hr b_is_sign .nil pass0 (pa_cons (pe_lit l3) pa_nil))) (pss_cons (ps_expr (pe_meth0 (pv 0) T.clR M_step G_step hr b_step .nil pass0))
    (pss_cons (ps_set (i := 1) (sc_read_expression).nd rfl (Or.inl rfl) (pe_call G_read_expression hr rfl m_read_expression k_read_expression b_read_expression .nil pass0 (pa_cons (pv 0) pa_nil)))
    (pss_cons (ps_if (PW.pt (pw_and (pt_cmpR op_eq (pe_meth0 (pv 0) T.clR M_kind G_kind hr b_kind .nil pass0) (pe_lit l36) (nomark _)) (pw_and1 (pt_cmpR op_in_seq (pe_meth0 (pv 0) T.clR M_value G_value hr b_value .nil pass0) (pe_glob rfl T.OPERATIONS rfl) rfl)))) (pss_cons (ps_set (i := 2) (sc_read_expression).nd rfl (Or.inl rfl) (pe_meth0 (pv 0) T.clR M_value G_value hr b_value .nil pass0))
    (pss_one (ps_expr (pe_meth0 (pv 0) T.clR M_step G_step hr b_step .nil pass0)))) (pss_cons (ps_expr (pe_meth (pv 0) T.clR M_need_word G_need_word hr b_need_word .nil pass0 (pa_cons (pe_lit l47) pa_nil)))
    (pss_one (ps_set (i := 2) (sc_read_expression).nd rfl (Or.inl rfl) (pe_lit l47)))))
    (pss_cons (ps_set (i := 3) (sc_read_expression).nd rfl (Or.inl rfl) (pe_call G_read_expression hr rfl m_read_expression k_read_expression b_read_expression .nil pass0 (pa_cons (pv 0) pa_nil)))
    (pss_cons (ps_expr (pe_meth (pv 0) T.clR M_need_sign G_need_sign hr b_need_sign .nil pass0 (pa_cons (pe_lit l26) pa_nil)))
    (pss_one (ps_ret (pe_tup (pa_cons (pe_lit l48) (pa_cons (pv 2) (pa_cons (pv 1) (pa_cons (pv 3) pa_nil)))))))))))) pss_nil)
    (pss_cons (ps_if (pt_val (pe_meth (pv 0) T.clR M_is_sign G_is_sign hr b_is_sign .nil pass0 (pa_cons (pe_lit l49) pa_nil))) (pss_cons (ps_expr (pe_meth0 (pv 0) T.clR M_step G_step hr b_step .nil pass0))
    (pss_one (ps_ret (pe_tup (pa_cons (pe_lit l27) (pa_cons (pe_un un_neg (pe_call G_read_number hr rfl m_read_number k_read_number b_read_number .nil pass0 (pa_cons (pv 0) pa_nil))) pa_nil)))))) pss_nil)
    (pss_cons (ps_if (pt_cmpR op_eq (pe_meth0 (pv 0) T.clR M_kind G_kind hr b_kind .nil pass0) (pe_lit l27) (nomark _)) (pss_one (ps_ret (pe_tup (pa_cons (pe_lit l27) (pa_cons (pe_call G_read_number hr rfl m_read_number k_read_number b_read_number .nil pass0 (pa_cons (pv 0) pa_nil)) pa_nil))))) pss_nil)
    (pss_one (ps_ret (pe_tup (pa_cons (pe_lit l28) (pa_cons (pe_meth0 (pv 0) T.clR M_need_name G_need_name hr b_need_name .nil pass0) pa_nil))))))))
theorem ok_read_expression {P : Program} {w : World} {K : PySem.W.Frag} {mg : Str → Option Value} {base : Heap} {k : Nat} {p_read_expression p_read_number p_is_sign p_step p_kind p_value p_need_word p_need_sign p_need_name : Sp} {sp : Sp} (T : GF K mg) (F : ∃ fd, FunD K "read_expression" "read_expression" (defArgs s_read_expression) (defBody s_read_expression) (defScope s_read_expression) [] [] (He.ga K "read_expression") fd) (m : mg "read_expression" = some (.ref (He.ga K "read_expression"))) (h_read_expression : Has P w K mg base k "read_expression" a_read_expression p_read_expression) (h_read_number : Has P w K mg base k "read_number" a_read_number p_read_number) (h_is_sign : HasM P w K mg base k "is_sign" a_Reader_is_sign p_is_sign) (h_step : HasM P w K mg base k "step" a_Reader_step p_step) (h_kind : HasM P w K mg base k "kind" a_Reader_kind p_kind) (h_value : HasM P w K mg base k "value" a_Reader_value p_value) (h_need_word : HasM P w K mg base k "need_word" a_Reader_need_word p_need_word) (h_need_sign : HasM P w K mg base k "need_sign" a_Reader_need_sign p_need_sign) (h_need_name : HasM P w K mg base k "need_name" a_Reader_need_name p_need_name)
    (len : ∀ vs H Q E, sp vs H Q E → vs.length = (a_read_expression).length) (pure_ : ∀ vs H Q E, sp vs H Q E → t_read_expression K p_read_expression p_read_number p_is_sign p_step p_kind p_value p_need_word p_need_sign p_need_name { nx := fun _ H' => Q .non H', rt := Q } (start n_read_expression vs) H) :
    Has P w K mg base (k + 1) "read_expression" a_read_expression sp := by
  obtain ⟨fd, F⟩ := F
  exact ⟨fd, FunD.ok F sc_read_expression len fun cdv A outer s H vs Q E hr h => ⟨t_read_expression K p_read_expression p_read_number p_is_sign p_step p_kind p_value p_need_word p_need_sign p_need_name, PSs.nox (de_read_expression T hr h_read_expression h_read_number h_is_sign h_step h_kind h_value h_need_word h_need_sign h_need_name), pure_ vs H Q E h⟩, FunD.bindsN F (ps := a_read_expression) (fun _ _ _ _ _ _ us hl => match us, hl with | [_], _ => rfl), F.kp, m⟩
theorem de__law_reserved {P : Program} {w : World} {K : PySem.W.Frag} {mg : Str → Option Value} {base : Heap} {k : Nat} {f : Addr} {cdv : Value} {A : Around} {outer : List Env} {s : Shared} {H : Hp} {E : XK} (T : GF K mg) (hr : Room k (A.deeper (envOfC "_law_reserved" (defScope s__law_reserved) s.heap.objs.size f cdv))) :
    PSs (cxOf CX0 P w K mg base n__law_reserved "_law_reserved" (defScope s__law_reserved) f cdv A outer s H E).nox (defBody s__law_reserved) (t__law_reserved K ) := by
  exact (pss_cons (ps_set (i := 0) (sc__law_reserved).nd rfl (Or.inl rfl) (pe_lst (pa_cons (pe_lit l38) (pa_cons (pe_lit l39) (pa_cons (pe_lit l18) (pa_cons (pe_lit l43) (pa_cons (pe_lit l21) (pa_cons (pe_lit l20) (pa_cons (pe_lit l42) (pa_cons (pe_lit l10) (pa_cons (pe_lit l45) (pa_cons (pe_lit l14) pa_nil))))))))))))
    (pss_one (ps_ret (pe_op op_cat (pv 0) (pe_lst (pa_cons (pe_lit l23) (pa_cons (pe_lit l46) (pa_cons (pe_lit l47) (pa_cons (pe_lit l29) (pa_cons (pe_lit l50) (pa_cons (pe_lit l51) pa_nil)))))))))))
theorem ok__law_reserved {P : Program} {w : World} {K : PySem.W.Frag} {mg : Str → Option Value} {base : Heap} {k : Nat} {sp : Sp} (T : GF K mg) (F : ∃ fd, FunD K "_law_reserved" "_law_reserved" (defArgs s__law_reserved) (defBody s__law_reserved) (defScope s__law_reserved) [] [] (He.ga K "_law_reserved") fd) (m : mg "_law_reserved" = some (.ref (He.ga K "_law_reserved")))
    (len : ∀ vs H Q E, sp vs H Q E → vs.length = (a__law_reserved).length) (pure_ : ∀ vs H Q E, sp vs H Q E → t__law_reserved K  { nx := fun _ H' => Q .non H', rt := Q } (start n__law_reserved vs) H) :
    Has P w K mg base (k + 1) "_law_reserved" a__law_reserved sp := by
  obtain ⟨fd, F⟩ := F
  exact ⟨fd, FunD.ok F sc__law_reserved len fun cdv A outer s H vs Q E hr h => ⟨t__law_reserved K , PSs.nox (de__law_reserved T hr), pure_ vs H Q E h⟩, FunD.bindsN F (ps := a__law_reserved) (fun _ _ _ _ _ _ us hl => match us, hl with | [], _ => rfl), F.kp, m⟩
theorem de__law_any_block {P : Program} {w : World} {K : PySem.W.Frag} {mg : Str → Option Value} {base : Heap} {k : Nat} {f : Addr} {cdv : Value} {A : Around} {outer : List Env} {s : Shared} {H : Hp} {E : XK} {p__law_next p__law_any_statement : Sp} (T : GF K mg) (hr : Room k (A.deeper (envOfC "_law_any_block" (defScope s__law_any_block) s.heap.objs.size f cdv))) (h__law_next : Has P w K mg base k "_law_next" a__law_next p__law_next) (h__law_any_statement : Has P w K mg base k "_law_any_statement" a__law_any_statement p__law_any_statement) :
    PSs (cxOf CX0 P w K mg base n__law_any_block "_law_any_block" (defScope s__law_any_block) f cdv A outer s H E).nox (defBody s__law_any_block) (t__law_any_block K p__law_next p__law_any_statement) := by
  obtain ⟨fd__law_next, G__law_next, b__law_next, k__law_next, m__law_next⟩ := h__law_next
  obtain ⟨fd__law_any_statement, G__law_any_statement, b__law_any_statement, k__law_any_statement, m__law_any_statement⟩ := h__law_any_statement
  exact (pss_cons (ps_set (i := 3) (sc__law_any_block).nd rfl (Or.inl rfl) (pe_lst pa_nil))
    (pss_cons (ps_for PassesOwn.never rfl (pi_range1 rfl T.range (pa_cons (pe_call G__law_next hr rfl m__law_next k__law_next b__law_next .nil pass0 (pa_cons (pv 0) (pa_cons (pv 1) (pa_cons pe_int pa_nil)))) pa_nil)) (pg_name (i := 4) (sc__law_any_block).nd rfl (Or.inl rfl)) (pss_one (ps_if (pt_cmpR op_gt (pe_ix ix_list (pv 0) pe_int (fun _ _ => rfl)) pe_int (nomark _)) (pss_cons (ps_asg (pe_op op_sub (pe_ix ix_list (pv 0) pe_int (fun _ _ => rfl)) pe_int) (pg_sub (pv 0) pe_int set_list))
    (pss_one (ps_expr (pe_bm PySem.F.plainAttrs_list PySem.F.slot_list_append PySem.F.type_list_append mt_append (pv 3) (pa_cons (pe_call G__law_any_statement hr rfl m__law_any_statement k__law_any_statement b__law_any_statement .nil pass0 (pa_cons (pv 0) (pa_cons (pv 1) (pa_cons (pv 2) pa_nil)))) pa_nil))))) pss_nil)))
    (pss_one (ps_ret (pe_callTy call_tuple_of rfl T.tuple_ (by decide +kernel) (pa_cons (pv 3) pa_nil))))))
theorem ok__law_any_block {P : Program} {w : World} {K : PySem.W.Frag} {mg : Str → Option Value} {base : Heap} {k : Nat} {p__law_next p__law_any_statement : Sp} {sp : Sp} (T : GF K mg) (F : ∃ fd, FunD K "_law_any_block" "_law_any_block" (defArgs s__law_any_block) (defBody s__law_any_block) (defScope s__law_any_block) [] [] (He.ga K "_law_any_block") fd) (m : mg "_law_any_block" = some (.ref (He.ga K "_law_any_block"))) (h__law_next : Has P w K mg base k "_law_next" a__law_next p__law_next) (h__law_any_statement : Has P w K mg base k "_law_any_statement" a__law_any_statement p__law_any_statement)
    (len : ∀ vs H Q E, sp vs H Q E → vs.length = (a__law_any_block).length) (pure_ : ∀ vs H Q E, sp vs H Q E → t__law_any_block K p__law_next p__law_any_statement { nx := fun _ H' => Q .non H', rt := Q } (start n__law_any_block vs) H) :
    Has P w K mg base (k + 1) "_law_any_block" a__law_any_block sp := by
  obtain ⟨fd, F⟩ := F
  exact ⟨fd, FunD.ok F sc__law_any_block len fun cdv A outer s H vs Q E hr h => ⟨t__law_any_block K p__law_next p__law_any_statement, PSs.nox (de__law_any_block T hr h__law_next h__law_any_statement), pure_ vs H Q E h⟩, FunD.bindsN F (ps := a__law_any_block) (fun _ _ _ _ _ _ us hl => match us, hl with | [_, _, _], _ => rfl), F.kp, m⟩
theorem de__law_block_words {P : Program} {w : World} {K : PySem.W.Frag} {mg : Str → Option Value} {base : Heap} {k : Nat} {f : Addr} {cdv : Value} {A : Around} {outer : List Env} {s : Shared} {H : Hp} {E : XK} {p__law_statement_words : Sp} (T : GF K mg) (hr : Room k (A.deeper (envOfC "_law_block_words" (defScope s__law_block_words) s.heap.objs.size f cdv))) (h__law_statement_words : Has P w K mg base k "_law_statement_words" a__law_statement_words p__law_statement_words) :
    PSs (cxOf CX0 P w K mg base n__law_block_words "_law_block_words" (defScope s__law_block_words) f cdv A outer s H E).nox (defBody s__law_block_words) (t__law_block_words K p__law_statement_words) := by
  obtain ⟨fd__law_statement_words, G__law_statement_words, b__law_statement_words, k__law_statement_words, m__law_statement_words⟩ := h__law_statement_words
  exact (pss_cons (ps_set (i := 1) (sc__law_block_words).nd rfl (Or.inl rfl) (pe_lst (pa_cons (pe_lit l41) pa_nil)))
    (pss_cons (ps_for PassesOwn.never rfl (pi_tup (pv 0)) (pg_name (i := 2) (sc__law_block_words).nd rfl (Or.inl rfl)) (pss_one (ps_set (i := 1) (sc__law_block_words).nd rfl (Or.inl rfl) (pe_op op_cat (pv 1) (pe_call G__law_statement_words hr rfl m__law_statement_words k__law_statement_words b__law_statement_words .nil pass0 (pa_cons (pv 2) pa_nil))))))
    (pss_one (ps_ret (pe_op op_cat (pv 1) (pe_lst (pa_cons (pe_lit l7) pa_nil)))))))
theorem ok__law_block_words {P : Program} {w : World} {K : PySem.W.Frag} {mg : Str → Option Value} {base : Heap} {k : Nat} {p__law_statement_words : Sp} {sp : Sp} (T : GF K mg) (F : ∃ fd, FunD K "_law_block_words" "_law_block_words" (defArgs s__law_block_words) (defBody s__law_block_words) (defScope s__law_block_words) [] [] (He.ga K "_law_block_words") fd) (m : mg "_law_block_words" = some (.ref (He.ga K "_law_block_words"))) (h__law_statement_words : Has P w K mg base k "_law_statement_words" a__law_statement_words p__law_statement_words)
    (len : ∀ vs H Q E, sp vs H Q E → vs.length = (a__law_block_words).length) (pure_ : ∀ vs H Q E, sp vs H Q E → t__law_block_words K p__law_statement_words { nx := fun _ H' => Q .non H', rt := Q } (start n__law_block_words vs) H) :
    Has P w K mg base (k + 1) "_law_block_words" a__law_block_words sp := by
  obtain ⟨fd, F⟩ := F
  exact ⟨fd, FunD.ok F sc__law_block_words len fun cdv A outer s H vs Q E hr h => ⟨t__law_block_words K p__law_statement_words, PSs.nox (de__law_block_words T hr h__law_statement_words), pure_ vs H Q E h⟩, FunD.bindsN F (ps := a__law_block_words) (fun _ _ _ _ _ _ us hl => match us, hl with | [_], _ => rfl), F.kp, m⟩
theorem de_law {P : Program} {w : World} {K : PySem.W.Frag} {mg : Str → Option Value} {base : Heap} {k : Nat} {f : Addr} {cdv : Value} {A : Around} {outer : List Env} {s : Shared} {H : Hp} {E : XK} {p__law_any_program p__law_program_words p_write p__law_same p__law_text p_parse p_tokens : Sp} (T : GF K mg) (hr : Room k (A.deeper (envOfC "law" (defScope s_law) s.heap.objs.size f cdv))) (quiet : (A.deeper (envOfC "law" (defScope s_law) s.heap.objs.size f cdv)).guards = some []) (h__law_any_program : Has P w K mg base k "_law_any_program" a__law_any_program p__law_any_program) (h__law_program_words : Has P w K mg base k "_law_program_words" a__law_program_words p__law_program_words) (h_write : Has P w K mg base k "write" a_write p_write) (h__law_same : Has P w K mg base k "_law_same" a__law_same p__law_same) (h__law_text : Has P w K mg base k "_law_text" a__law_text p__law_text) (h_parse : Has P w K mg base k "parse" a_parse p_parse) (h_tokens : Has P w K mg base k "tokens" a_tokens p_tokens) :
    PSs (cxOf CX0 P w K mg base n_law "law" (defScope s_law) f cdv A outer s H E).nox (defBody s_law) (t_law K p__law_any_program p__law_program_words p_write p__law_same p__law_text p_parse p_tokens) := by
  obtain ⟨fd__law_any_program, G__law_any_program, b__law_any_program, k__law_any_program, m__law_any_program⟩ := h__law_any_program
  obtain ⟨fd__law_program_words, G__law_program_words, b__law_program_words, k__law_program_words, m__law_program_words⟩ := h__law_program_words
  obtain ⟨fd_write, G_write, b_write, k_write, m_write⟩ := h_write
  obtain ⟨fd__law_same, G__law_same, b__law_same, k__law_same, m__law_same⟩ := h__law_same
  obtain ⟨fd__law_text, G__law_text, b__law_text, k__law_text, m__law_text⟩ := h__law_text
  obtain ⟨fd_parse, G_parse, b_parse, k_parse, m_parse⟩ := h_parse
  obtain ⟨fd_tokens, G_tokens, b_tokens, k_tokens, m_tokens⟩ := h_tokens
  exact (pss_cons (ps_set (i := 1) (sc_law).nd rfl (Or.inl rfl) (pe_lst (pa_cons pe_int (pa_cons pe_int (pa_cons pe_int (pa_cons pe_int pa_nil))))))
    (pss_cons (ps_for PassesOwn.never rfl (pi_range1 rfl T.range (pa_cons pe_int pa_nil)) (pg_name (i := 2) (sc_law).nd rfl (Or.inl rfl)) (pss_cons (ps_set (i := 3) (sc_law).nd rfl (Or.inl rfl) (pe_call G__law_any_program hr rfl m__law_any_program k__law_any_program b__law_any_program .nil pass0 (pa_cons (pv 1) (pa_cons (pv 0) pa_nil))))
    (pss_cons (ps_set (i := 4) (sc_law).nd rfl (Or.inl rfl) (pe_call G__law_program_words hr rfl m__law_program_words k__law_program_words b__law_program_words .nil pass0 (pa_cons (pv 3) pa_nil)))
    (pss_cons (ps_if (pt_cmpR op_gt (pe_callB call_len_seq rfl T.len boot_len (pa_cons (pv 4) pa_nil)) pe_int (nomark _)) (pss_one (ps_ret pe_bl)) pss_nil)
    (pss_cons (ps_set (i := 5) (sc_law).nd rfl (Or.inl rfl) (pe_callB (call_reprD quiet hr.units) rfl T.repr_ (by decide +kernel) (pa_cons (pv 3) pa_nil)))
    (pss_cons (ps_set (i := 6) (sc_law).nd rfl (Or.inl rfl) (pe_call G_write hr rfl m_write k_write b_write .nil pass0 (pa_cons (pv 3) pa_nil)))
    (pss_cons (ps_if (PW.pt (pw_or (pt_not (pt_val (pe_call G__law_same hr rfl m__law_same k__law_same b__law_same .nil pass0 (pa_cons (pv 6) (pa_cons (pe_call G__law_text hr rfl m__law_text k__law_text b__law_text .nil pass0 (pa_cons (pv 4) pa_nil)) pa_nil))))) (pw_or (pt_not (pt_val (pe_call G__law_same hr rfl m__law_same k__law_same b__law_same .nil pass0 (pa_cons (pe_call G_parse hr rfl m_parse k_parse b_parse .nil pass0 (pa_cons (pv 6) pa_nil)) (pa_cons (pv 3) pa_nil))))) (pw_or1 (pt_cmpR op_ne (pe_callB (call_reprD quiet hr.units) rfl T.repr_ (by decide +kernel) (pa_cons (pv 3) pa_nil)) (pv 5) (nomark _)))))) (pss_one (ps_ret pe_bl)) pss_nil)
    (pss_one (ps_if (pt_cmpR (op_neD hr.units) (pe_lc (own := [("_law_token", 7)]) (g := gName 7) (tt := tYes) rfl (sc_law).nd (pi_tup (pe_call G_tokens hr rfl m_tokens k_tokens b_tokens .nil pass0 (pa_cons (pv 6) pa_nil))) (blkOk_by (own := [("_law_token", 7)]) (N := n_law) (sc := defScope s_law) (by decide +kernel)) (fun _ _ _ _ _ => pg_name (i := 7) (sc_law).nd rfl (Or.inl rfl)) (fun _ _ _ _ _ => pts_nil) (fun _ _ _ _ _ => (pe_callTy call_str_any rfl T.str_ (by decide +kernel) (pa_cons (pe_ix ix_tup (pv 7) pe_int (fun _ _ => rfl)) pa_nil)))) (pv 4) (nomark _)) (pss_one (ps_ret pe_bl)) pss_nil)))))))))
    (pss_one (ps_ret (pe_call G__law_same hr rfl m__law_same k__law_same b__law_same .nil pass0 (pa_cons (pe_call G_write hr rfl m_write k_write b_write .nil pass0 (pa_cons (pe_tup (pa_cons (pe_tup pa_nil) (pa_cons (pe_tup pa_nil) pa_nil))) pa_nil)) (pa_cons (pe_lit l8) pa_nil)))))))
end Cc
end
section
namespace Cc
open PySem PySem.Spec PyProof.Rows L2
theorem de_simple_text {P : Program} {w : World} {K : PySem.W.Frag} {mg : Str → Option Value} {base : Heap} {k : Nat} {f : Addr} {cdv : Value} {A : Around} {outer : List Env} {s : Shared} {H : Hp} {E : XK} {p_expression_text p_condition_text : Sp} (T : GF K mg) (hr : Room k (A.deeper (envOfC "simple_text" (defScope s_simple_text) s.heap.objs.size f cdv))) (h_expression_text : Has P w K mg base k "expression_text" a_expression_text p_expression_text) (h_condition_text : Has P w K mg base k "condition_text" a_condition_text p_condition_text) :
    PSs (cxOf CX0 P w K mg base n_simple_text "simple_text" (defScope s_simple_text) f cdv A outer s H E).nox (defBody s_simple_text) (t_simple_text K p_expression_text p_condition_text) := by
  obtain ⟨fd_expression_text, G_expression_text, b_expression_text, k_expression_text, m_expression_text⟩ := h_expression_text
  obtain ⟨fd_condition_text, G_condition_text, b_condition_text, k_condition_text, m_condition_text⟩ := h_condition_text
  exact (pss_cons (ps_set (i := 1) (sc_simple_text).nd rfl (Or.inl rfl) (pe_ix ix_tup (pv 0) pe_int (fun _ _ => rfl)))
    (pss_cons (ps_if (pt_cmpR op_eq (pv 1) (pe_lit l16) (nomark _)) (pss_one (ps_ret (pe_op op_add_str (pe_op op_add_str (pe_ix ix_tup (pv 0) pe_int (fun _ _ => rfl)) (pe_lit l17)) (pe_call G_expression_text hr rfl m_expression_text k_expression_text b_expression_text .nil pass0 (pa_cons (pe_ix ix_tup (pv 0) pe_int (fun _ _ => rfl)) pa_nil))))) pss_nil)
    (pss_cons (ps_if (pt_cmpR op_eq (pv 1) (pe_lit l18) (nomark _)) (pss_one (ps_ret (pe_op op_add_str (pe_lit l19) (pe_ix ix_tup (pv 0) pe_int (fun _ _ => rfl))))) pss_nil)
    (pss_cons (ps_if (pt_cmpR op_in_seq (pv 1) (pe_tup (pa_cons (pe_lit l21) (pa_cons (pe_lit l20) pa_nil))) rfl) (pss_one (ps_ret (pe_op op_add_str (pe_op op_add_str (pv 1) (pe_lit l22)) (pe_call G_condition_text hr rfl m_condition_text k_condition_text b_condition_text .nil pass0 (pa_cons (pe_ix ix_tup (pv 0) pe_int (fun _ _ => rfl)) pa_nil))))) pss_nil)
    (pss_cons (ps_if (pt_cmpR op_eq (pv 1) (pe_lit l23) (nomark _)) (pss_cons (ps_set (i := 2) (sc_simple_text).nd rfl (Or.inl rfl) (pe_join (pe_lit l4) (pe_lc (own := [("value", 4)]) (g := gName 4) (tt := tYes) rfl (sc_simple_text).nd (pi_tup (pe_ix ix_tup (pv 0) pe_int (fun _ _ => rfl))) (blkOk_by (own := [("value", 4)]) (N := n_simple_text) (sc := defScope s_simple_text) (by decide +kernel)) (fun _ _ _ _ _ => pg_name (i := 4) (sc_simple_text).nd rfl (Or.inl rfl)) (fun _ _ _ _ _ => pts_nil) (fun _ _ _ _ _ => (pe_call G_expression_text hr rfl m_expression_text k_expression_text b_expression_text .nil pass0 (pa_cons (pv 4) pa_nil))))))
    (pss_cons (ps_set (i := 3) (sc_simple_text).nd rfl (Or.inl rfl) (pe_ifExp (pt_cmpR op_isN (pe_ix ix_tup (pv 0) pe_int (fun _ _ => rfl)) pe_non (nomark _)) (pe_lit l8) (pe_op op_add_str (pe_lit l24) (pe_ix ix_tup (pv 0) pe_int (fun _ _ => rfl)))))
    (pss_one (ps_ret (pe_op op_add_str (pe_op op_add_str (pe_op op_add_str (pe_op op_add_str (pe_op op_add_str (pe_lit l25) (pe_ix ix_tup (pv 0) pe_int (fun _ _ => rfl))) (pe_lit l3)) (pv 2)) (pe_lit l26)) (pv 3)))))) pss_nil)
    (pss_one (ps_ret (pe_op op_add_str (pe_op op_add_str (pv 1) (pe_lit l22)) (pe_call G_expression_text hr rfl m_expression_text k_expression_text b_expression_text .nil pass0 (pa_cons (pe_ix ix_tup (pv 0) pe_int (fun _ _ => rfl)) pa_nil))))))))))
theorem ok_simple_text {P : Program} {w : World} {K : PySem.W.Frag} {mg : Str → Option Value} {base : Heap} {k : Nat} {p_expression_text p_condition_text : Sp} {sp : Sp} (T : GF K mg) (F : ∃ fd, FunD K "simple_text" "simple_text" (defArgs s_simple_text) (defBody s_simple_text) (defScope s_simple_text) [] [] (He.ga K "simple_text") fd) (m : mg "simple_text" = some (.ref (He.ga K "simple_text"))) (h_expression_text : Has P w K mg base k "expression_text" a_expression_text p_expression_text) (h_condition_text : Has P w K mg base k "condition_text" a_condition_text p_condition_text)
    (len : ∀ vs H Q E, sp vs H Q E → vs.length = (a_simple_text).length) (pure_ : ∀ vs H Q E, sp vs H Q E → t_simple_text K p_expression_text p_condition_text { nx := fun _ H' => Q .non H', rt := Q } (start n_simple_text vs) H) :
    Has P w K mg base (k + 1) "simple_text" a_simple_text sp := by
  obtain ⟨fd, F⟩ := F
  exact ⟨fd, FunD.ok F sc_simple_text len fun cdv A outer s H vs Q E hr h => ⟨t_simple_text K p_expression_text p_condition_text, PSs.nox (de_simple_text T hr h_expression_text h_condition_text), pure_ vs H Q E h⟩, FunD.bindsN F (ps := a_simple_text) (fun _ _ _ _ _ _ us hl => match us, hl with | [_], _ => rfl), F.kp, m⟩
theorem de_number_at {P : Program} {w : World} {K : PySem.W.Frag} {mg : Str → Option Value} {base : Heap} {k : Nat} {f : Addr} {cdv : Value} {A : Around} {outer : List Env} {s : Shared} {H : Hp} {E : XK} {p_end_of : Sp} (T : GF K mg) (hr : Room k (A.deeper (envOfC "number_at" (defScope s_number_at) s.heap.objs.size f cdv))) (h_end_of : Has P w K mg base k "end_of" a_end_of p_end_of) :
    PSs (cxOf CX0 P w K mg base n_number_at "number_at" (defScope s_number_at) f cdv A outer s H E).nox (defBody s_number_at) (t_number_at K p_end_of) := by
  obtain ⟨fd_end_of, G_end_of, b_end_of, k_end_of, m_end_of⟩ := h_end_of
  exact (pss_cons (ps_set (i := 2) (sc_number_at).nd rfl (Or.inl rfl) (pe_call G_end_of hr rfl m_end_of k_end_of b_end_of .nil pass0 (pa_cons (pv 0) (pa_cons (pv 1) (pa_cons (pe_glob rfl T.DIGITS.choose_spec ⟨_, rfl⟩) pa_nil)))))
    (pss_cons (ps_set (i := 3) (sc_number_at).nd rfl (Or.inl rfl) (pe_slice sl_str (pv 0) (po_some (pv 1)) (po_some (pv 2))))
    (pss_cons (ps_if (PW.pt (pw_or (pt_cmpR op_gt (pe_callB call_len_str rfl T.len boot_len (pa_cons (pv 3) pa_nil)) pe_int (nomark _)) (pw_or1 (PW.pt (pw_and (pt_cmpR op_gt (pe_callB call_len_str rfl T.len boot_len (pa_cons (pv 3) pa_nil)) pe_int (nomark _)) (pw_and1 (pt_cmpR op_eq (pe_ix ix_str (pv 3) pe_int (fun _ _ => rfl)) (pe_lit l37) (nomark _)))))))) (pss_one (ps_ret (pe_tup (pa_cons (pe_lit l34) (pa_cons (pe_lit l8) (pa_cons (pv 1) pa_nil)))))) pss_nil)
    (pss_cons (ps_if (pt_cmpR op_gt (pe_callTy call_int_str rfl T.int_ (by decide +kernel) (pa_cons (pv 3) pa_nil)) (pe_glob rfl T.LARGEST.choose_spec ⟨_, rfl⟩) (nomark _)) (pss_one (ps_ret (pe_tup (pa_cons (pe_lit l34) (pa_cons (pe_lit l8) (pa_cons (pv 1) pa_nil)))))) pss_nil)
    (pss_one (ps_ret (pe_tup (pa_cons (pe_lit l27) (pa_cons (pe_callTy call_int_str rfl T.int_ (by decide +kernel) (pa_cons (pv 3) pa_nil)) (pa_cons (pv 2) pa_nil))))))))))
theorem ok_number_at {P : Program} {w : World} {K : PySem.W.Frag} {mg : Str → Option Value} {base : Heap} {k : Nat} {p_end_of : Sp} {sp : Sp} (T : GF K mg) (F : ∃ fd, FunD K "number_at" "number_at" (defArgs s_number_at) (defBody s_number_at) (defScope s_number_at) [] [] (He.ga K "number_at") fd) (m : mg "number_at" = some (.ref (He.ga K "number_at"))) (h_end_of : Has P w K mg base k "end_of" a_end_of p_end_of)
    (len : ∀ vs H Q E, sp vs H Q E → vs.length = (a_number_at).length) (pure_ : ∀ vs H Q E, sp vs H Q E → t_number_at K p_end_of { nx := fun _ H' => Q .non H', rt := Q } (start n_number_at vs) H) :
    Has P w K mg base (k + 1) "number_at" a_number_at sp := by
  obtain ⟨fd, F⟩ := F
  exact ⟨fd, FunD.ok F sc_number_at len fun cdv A outer s H vs Q E hr h => ⟨t_number_at K p_end_of, PSs.nox (de_number_at T hr h_end_of), pure_ vs H Q E h⟩, FunD.bindsN F (ps := a_number_at) (fun _ _ _ _ _ _ us hl => match us, hl with | [_, _], _ => rfl), F.kp, m⟩
theorem de_Reader_is_word {P : Program} {w : World} {K : PySem.W.Frag} {mg : Str → Option Value} {base : Heap} {k : Nat} {f : Addr} {cdv : Value} {A : Around} {outer : List Env} {s : Shared} {H : Hp} {E : XK} {p_kind p_value : Sp} (T : GF K mg) (hr : Room k (A.deeper (envOfC "Reader.is_word" (defScope s_Reader_is_word) s.heap.objs.size f cdv))) (h_kind : HasM P w K mg base k "kind" a_Reader_kind p_kind) (h_value : HasM P w K mg base k "value" a_Reader_value p_value) :
    PSs (cxOf CX0 P w K mg base n_Reader_is_word "Reader.is_word" (defScope s_Reader_is_word) f cdv A outer s H E).nox (defBody s_Reader_is_word) (t_Reader_is_word K p_kind p_value) := by
  obtain ⟨fd_kind, G_kind, b_kind, M_kind⟩ := h_kind
  obtain ⟨fd_value, G_value, b_value, M_value⟩ := h_value
  exact (pss_one (ps_ret (pe_and (pe_cmpR op_eq (pe_meth0 (pv 0) T.clR M_kind G_kind hr b_kind .nil pass0) (pe_lit l35) (nomark _)) (pe_one (pe_cmpR op_eq (pe_meth0 (pv 0) T.clR M_value G_value hr b_value .nil pass0) (pv 1) (nomark _))))))
theorem ok_Reader_is_word {P : Program} {w : World} {K : PySem.W.Frag} {mg : Str → Option Value} {base : Heap} {k : Nat} {p_kind p_value : Sp} {sp : Sp} (T : GF K mg) (F : ∃ fd, FunD K "is_word" "Reader.is_word" (defArgs s_Reader_is_word) (defBody s_Reader_is_word) (defScope s_Reader_is_word) [] [] (He.ma K (He.ga K "Reader") "is_word") fd) (M : Meth K (He.ga K "Reader") "is_word" (He.ma K (He.ga K "Reader") "is_word")) (h_kind : HasM P w K mg base k "kind" a_Reader_kind p_kind) (h_value : HasM P w K mg base k "value" a_Reader_value p_value)
    (len : ∀ vs H Q E, sp vs H Q E → vs.length = (a_Reader_is_word).length) (pure_ : ∀ vs H Q E, sp vs H Q E → t_Reader_is_word K p_kind p_value { nx := fun _ H' => Q .non H', rt := Q } (start n_Reader_is_word vs) H) :
    HasM P w K mg base (k + 1) "is_word" a_Reader_is_word sp := by
  obtain ⟨fd, F⟩ := F
  exact ⟨fd, FunD.ok F sc_Reader_is_word len fun cdv A outer s H vs Q E hr h => ⟨t_Reader_is_word K p_kind p_value, PSs.nox (de_Reader_is_word T hr h_kind h_value), pure_ vs H Q E h⟩, FunD.bindsN F (ps := a_Reader_is_word) (fun _ _ _ _ _ _ us hl => match us, hl with | [_, _], _ => rfl), M⟩
theorem de_read_names {P : Program} {w : World} {K : PySem.W.Frag} {mg : Str → Option Value} {base : Heap} {k : Nat} {f : Addr} {cdv : Value} {A : Around} {outer : List Env} {s : Shared} {H : Hp} {E : XK} {p_need_sign p_is_sign p_need_name p_step : Sp} (T : GF K mg) (hr : Room k (A.deeper (envOfC "read_names" (defScope s_read_names) s.heap.objs.size f cdv))) (h_need_sign : HasM P w K mg base k "need_sign" a_Reader_need_sign p_need_sign) (h_is_sign : HasM P w K mg base k "is_sign" a_Reader_is_sign p_is_sign) (h_need_name : HasM P w K mg base k "need_name" a_Reader_need_name p_need_name) (h_step : HasM P w K mg base k "step" a_Reader_step p_step) :
    PSs (cxOf CX0 P w K mg base n_read_names "read_names" (defScope s_read_names) f cdv A outer s H E).nox (defBody s_read_names) (t_read_names K p_need_sign p_is_sign p_need_name p_step) := by
  obtain ⟨fd_need_sign, G_need_sign, b_need_sign, M_need_sign⟩ := h_need_sign
  obtain ⟨fd_is_sign, G_is_sign, b_is_sign, M_is_sign⟩ := h_is_sign
  obtain ⟨fd_need_name, G_need_name, b_need_name, M_need_name⟩ := h_need_name
  obtain ⟨fd_step, G_step, b_step, M_step⟩ := h_step
  exact (pss_cons (ps_expr (pe_meth (pv 0) T.clR M_need_sign G_need_sign hr b_need_sign .nil pass0 (pa_cons (pe_lit l3) pa_nil)))
    (pss_cons (ps_set (i := 1) (sc_read_names).nd rfl (Or.inl rfl) (pe_lst pa_nil))
    (pss_cons (ps_if (pt_not (pt_val (pe_meth (pv 0) T.clR M_is_sign G_is_sign hr b_is_sign .nil pass0 (pa_cons (pe_lit l26) pa_nil)))) (pss_cons (ps_expr (pe_bm PySem.F.plainAttrs_list PySem.F.slot_list_append PySem.F.type_list_append mt_append (pv 1) (pa_cons (pe_meth0 (pv 0) T.clR M_need_name G_need_name hr b_need_name .nil pass0) pa_nil)))
    (pss_one (ps_while PassesOwn.never (pt_val (pe_meth (pv 0) T.clR M_is_sign G_is_sign hr b_is_sign .nil pass0 (pa_cons (pe_lit l40) pa_nil))) (pss_cons (ps_expr (pe_meth0 (pv 0) T.clR M_step G_step hr b_step .nil pass0))
    (pss_one (ps_expr (pe_bm PySem.F.plainAttrs_list PySem.F.slot_list_append PySem.F.type_list_append mt_append (pv 1) (pa_cons (pe_meth0 (pv 0) T.clR M_need_name G_need_name hr b_need_name .nil pass0) pa_nil)))))))) pss_nil)
    (pss_cons (ps_expr (pe_meth (pv 0) T.clR M_need_sign G_need_sign hr b_need_sign .nil pass0 (pa_cons (pe_lit l26) pa_nil)))
    (pss_one (ps_ret (pe_callTy call_tuple_of rfl T.tuple_ (by decide +kernel) (pa_cons (pv 1) pa_nil))))))))
theorem ok_read_names {P : Program} {w : World} {K : PySem.W.Frag} {mg : Str → Option Value} {base : Heap} {k : Nat} {p_need_sign p_is_sign p_need_name p_step : Sp} {sp : Sp} (T : GF K mg) (F : ∃ fd, FunD K "read_names" "read_names" (defArgs s_read_names) (defBody s_read_names) (defScope s_read_names) [] [] (He.ga K "read_names") fd) (m : mg "read_names" = some (.ref (He.ga K "read_names"))) (h_need_sign : HasM P w K mg base k "need_sign" a_Reader_need_sign p_need_sign) (h_is_sign : HasM P w K mg base k "is_sign" a_Reader_is_sign p_is_sign) (h_need_name : HasM P w K mg base k "need_name" a_Reader_need_name p_need_name) (h_step : HasM P w K mg base k "step" a_Reader_step p_step)
    (len : ∀ vs H Q E, sp vs H Q E → vs.length = (a_read_names).length) (pure_ : ∀ vs H Q E, sp vs H Q E → t_read_names K p_need_sign p_is_sign p_need_name p_step { nx := fun _ H' => Q .non H', rt := Q } (start n_read_names vs) H) :
    Has P w K mg base (k + 1) "read_names" a_read_names sp := by
  obtain ⟨fd, F⟩ := F
  exact ⟨fd, FunD.ok F sc_read_names len fun cdv A outer s H vs Q E hr h => ⟨t_read_names K p_need_sign p_is_sign p_need_name p_step, PSs.nox (de_read_names T hr h_need_sign h_is_sign h_need_name h_step), pure_ vs H Q E h⟩, FunD.bindsN F (ps := a_read_names) (fun _ _ _ _ _ _ us hl => match us, hl with | [_], _ => rfl), F.kp, m⟩
theorem de_read_number {P : Program} {w : World} {K : PySem.W.Frag} {mg : Str → Option Value} {base : Heap} {k : Nat} {f : Addr} {cdv : Value} {A : Around} {outer : List Env} {s : Shared} {H : Hp} {E : XK} {p_kind p_fail p_value p_step : Sp} (T : GF K mg) (hr : Room k (A.deeper (envOfC "read_number" (defScope s_read_number) s.heap.objs.size f cdv))) (h_kind : HasM P w K mg base k "kind" a_Reader_kind p_kind) (h_fail : HasM P w K mg base k "fail" a_Reader_fail p_fail) (h_value : HasM P w K mg base k "value" a_Reader_value p_value) (h_step : HasM P w K mg base k "step" a_Reader_step p_step) :
    PSs (cxOf CX0 P w K mg base n_read_number "read_number" (defScope s_read_number) f cdv A outer s H E).nox (defBody s_read_number) (t_read_number K p_kind p_fail p_value p_step) := by
  obtain ⟨fd_kind, G_kind, b_kind, M_kind⟩ := h_kind
  obtain ⟨fd_fail, G_fail, b_fail, M_fail⟩ := h_fail
  obtain ⟨fd_value, G_value, b_value, M_value⟩ := h_value
  obtain ⟨fd_step, G_step, b_step, M_step⟩ := h_step
  exact (pss_cons (ps_if (pt_cmpR op_ne (pe_meth0 (pv 0) T.clR M_kind G_kind hr b_kind .nil pass0) (pe_lit l27) (nomark _)) (pss_one (ps_expr (pe_meth0 (pv 0) T.clR M_fail G_fail hr b_fail .nil pass0))) pss_nil)
    (pss_cons (ps_set (i := 1) (sc_read_number).nd rfl (Or.inl rfl) (pe_meth0 (pv 0) T.clR M_value G_value hr b_value .nil pass0))
    (pss_cons (ps_expr (pe_meth0 (pv 0) T.clR M_step G_step hr b_step .nil pass0))
    (pss_one (ps_ret (pv 1))))))
theorem ok_read_number {P : Program} {w : World} {K : PySem.W.Frag} {mg : Str → Option Value} {base : Heap} {k : Nat} {p_kind p_fail p_value p_step : Sp} {sp : Sp} (T : GF K mg) (F : ∃ fd, FunD K "read_number" "read_number" (defArgs s_read_number) (defBody s_read_number) (defScope s_read_number) [] [] (He.ga K "read_number") fd) (m : mg "read_number" = some (.ref (He.ga K "read_number"))) (h_kind : HasM P w K mg base k "kind" a_Reader_kind p_kind) (h_fail : HasM P w K mg base k "fail" a_Reader_fail p_fail) (h_value : HasM P w K mg base k "value" a_Reader_value p_value) (h_step : HasM P w K mg base k "step" a_Reader_step p_step)
    (len : ∀ vs H Q E, sp vs H Q E → vs.length = (a_read_number).length) (pure_ : ∀ vs H Q E, sp vs H Q E → t_read_number K p_kind p_fail p_value p_step { nx := fun _ H' => Q .non H', rt := Q } (start n_read_number vs) H) :
    Has P w K mg base (k + 1) "read_number" a_read_number sp := by
  obtain ⟨fd, F⟩ := F
  exact ⟨fd, FunD.ok F sc_read_number len fun cdv A outer s H vs Q E hr h => ⟨t_read_number K p_kind p_fail p_value p_step, PSs.nox (de_read_number T hr h_kind h_fail h_value h_step), pure_ vs H Q E h⟩, FunD.bindsN F (ps := a_read_number) (fun _ _ _ _ _ _ us hl => match us, hl with | [_], _ => rfl), F.kp, m⟩
theorem de__law_name {P : Program} {w : World} {K : PySem.W.Frag} {mg : Str → Option Value} {base : Heap} {k : Nat} {f : Addr} {cdv : Value} {A : Around} {outer : List Env} {s : Shared} {H : Hp} {E : XK} {p__law_word p__law_reserved : Sp} (T : GF K mg) (hr : Room k (A.deeper (envOfC "_law_name" (defScope s__law_name) s.heap.objs.size f cdv))) (h__law_word : Has P w K mg base k "_law_word" a__law_word p__law_word) (h__law_reserved : Has P w K mg base k "_law_reserved" a__law_reserved p__law_reserved) :
    PSs (cxOf CX0 P w K mg base n__law_name "_law_name" (defScope s__law_name) f cdv A outer s H E).nox (defBody s__law_name) (t__law_name K p__law_word p__law_reserved) := by
  obtain ⟨fd__law_word, G__law_word, b__law_word, k__law_word, m__law_word⟩ := h__law_word
  obtain ⟨fd__law_reserved, G__law_reserved, b__law_reserved, k__law_reserved, m__law_reserved⟩ := h__law_reserved
  exact (pss_cons (ps_set (i := 2) (sc__law_name).nd rfl (Or.inl rfl) (pe_call G__law_word hr rfl m__law_word k__law_word b__law_word .nil pass0 (pa_cons (pv 0) (pa_cons (pv 1) pa_nil))))
    (pss_cons (ps_if (pt_cmpR op_in_seq (pv 2) (pe_call0 G__law_reserved hr rfl m__law_reserved k__law_reserved b__law_reserved .nil pass0) rfl) (pss_one (ps_ret (pe_op op_add_str (pv 2) (pe_lit l54)))) pss_nil)
    (pss_one (ps_ret (pv 2)))))
theorem ok__law_name {P : Program} {w : World} {K : PySem.W.Frag} {mg : Str → Option Value} {base : Heap} {k : Nat} {p__law_word p__law_reserved : Sp} {sp : Sp} (T : GF K mg) (F : ∃ fd, FunD K "_law_name" "_law_name" (defArgs s__law_name) (defBody s__law_name) (defScope s__law_name) [] [] (He.ga K "_law_name") fd) (m : mg "_law_name" = some (.ref (He.ga K "_law_name"))) (h__law_word : Has P w K mg base k "_law_word" a__law_word p__law_word) (h__law_reserved : Has P w K mg base k "_law_reserved" a__law_reserved p__law_reserved)
    (len : ∀ vs H Q E, sp vs H Q E → vs.length = (a__law_name).length) (pure_ : ∀ vs H Q E, sp vs H Q E → t__law_name K p__law_word p__law_reserved { nx := fun _ H' => Q .non H', rt := Q } (start n__law_name vs) H) :
    Has P w K mg base (k + 1) "_law_name" a__law_name sp := by
  obtain ⟨fd, F⟩ := F
  exact ⟨fd, FunD.ok F sc__law_name len fun cdv A outer s H vs Q E hr h => ⟨t__law_name K p__law_word p__law_reserved, PSs.nox (de__law_name T hr h__law_word h__law_reserved), pure_ vs H Q E h⟩, FunD.bindsN F (ps := a__law_name) (fun _ _ _ _ _ _ us hl => match us, hl with | [_, _], _ => rfl), F.kp, m⟩
theorem de__law_any_program {P : Program} {w : World} {K : PySem.W.Frag} {mg : Str → Option Value} {base : Heap} {k : Nat} {f : Addr} {cdv : Value} {A : Around} {outer : List Env} {s : Shared} {H : Hp} {E : XK} {p__law_next p__law_name p__law_any_block : Sp} (T : GF K mg) (hr : Room k (A.deeper (envOfC "_law_any_program" (defScope s__law_any_program) s.heap.objs.size f cdv))) (h__law_next : Has P w K mg base k "_law_next" a__law_next p__law_next) (h__law_name : Has P w K mg base k "_law_name" a__law_name p__law_name) (h__law_any_block : Has P w K mg base k "_law_any_block" a__law_any_block p__law_any_block) :
    PSs (cxOf CX0 P w K mg base n__law_any_program "_law_any_program" (defScope s__law_any_program) f cdv A outer s H E).nox (defBody s__law_any_program) (t__law_any_program K p__law_next p__law_name p__law_any_block) := by
  obtain ⟨fd__law_next, G__law_next, b__law_next, k__law_next, m__law_next⟩ := h__law_next
  obtain ⟨fd__law_name, G__law_name, b__law_name, k__law_name, m__law_name⟩ := h__law_name
  obtain ⟨fd__law_any_block, G__law_any_block, b__law_any_block, k__law_any_block, m__law_any_block⟩ := h__law_any_block
  exact (pss_cons (ps_set (i := 2) (sc__law_any_program).nd rfl (Or.inl rfl) (pe_ix ix_list (pe_lst (pa_cons (pe_lst (pa_cons pe_int (pa_cons pe_int (pa_cons pe_int pa_nil)))) (pa_cons (pe_lst (pa_cons pe_int (pa_cons pe_int (pa_cons pe_int pa_nil)))) (pa_cons (pe_lst (pa_cons pe_int (pa_cons pe_int (pa_cons pe_int pa_nil)))) pa_nil)))) (pe_call G__law_next hr rfl m__law_next k__law_next b__law_next .nil pass0 (pa_cons (pv 0) (pa_cons (pv 1) (pa_cons pe_int pa_nil)))) (fun _ _ => rfl)))
    (pss_cons (ps_set (i := 4) (sc__law_any_program).nd rfl (Or.inl rfl) (pe_callTy call_tuple_of rfl T.tuple_ (by decide +kernel) (pa_cons (pe_lc (own := [("_law_k", 3)]) (g := gName 3) (tt := tYes) rfl (sc__law_any_program).nd (pi_range1 rfl T.range (pa_cons (pe_call G__law_next hr rfl m__law_next k__law_next b__law_next .nil pass0 (pa_cons (pv 0) (pa_cons (pv 1) (pa_cons (pe_ix ix_list (pv 2) pe_int (fun _ _ => rfl)) pa_nil)))) pa_nil)) (blkOk_by (own := [("_law_k", 3)]) (N := n__law_any_program) (sc := defScope s__law_any_program) (by decide +kernel)) (fun _ _ _ _ _ => pg_name (i := 3) (sc__law_any_program).nd rfl (Or.inl rfl)) (fun _ _ _ _ _ => pts_nil) (fun _ _ _ _ _ => (pe_call G__law_name hr rfl m__law_name k__law_name b__law_name .nil pass0 (pa_cons (pv 0) (pa_cons (pv 1) pa_nil))))) pa_nil)))
    (pss_cons (ps_asg pe_int (pg_sub (pv 0) pe_int set_list))
    (pss_cons (ps_set (i := 5) (sc__law_any_program).nd rfl (Or.inl rfl) (pe_lst pa_nil))
    (pss_cons (ps_for PassesOwn.never rfl (pi_range1 rfl T.range (pa_cons (pe_call G__law_next hr rfl m__law_next k__law_next b__law_next .nil pass0 (pa_cons (pv 0) (pa_cons (pv 1) (pa_cons (pe_ix ix_list (pv 2) pe_int (fun _ _ => rfl)) pa_nil)))) pa_nil)) (pg_name (i := 3) (sc__law_any_program).nd rfl (Or.inl rfl)) (pss_cons (ps_set (i := 6) (sc__law_any_program).nd rfl (Or.inl rfl) (pe_call G__law_name hr rfl m__law_name k__law_name b__law_name .nil pass0 (pa_cons (pv 0) (pa_cons (pv 1) pa_nil))))
    (pss_cons (ps_set (i := 7) (sc__law_any_program).nd rfl (Or.inl rfl) (pe_callTy call_tuple_of rfl T.tuple_ (by decide +kernel) (pa_cons (pe_lc (own := [("_law_j", 9)]) (g := gName 9) (tt := tYes) rfl (sc__law_any_program).nd (pi_range1 rfl T.range (pa_cons (pe_call G__law_next hr rfl m__law_next k__law_next b__law_next .nil pass0 (pa_cons (pv 0) (pa_cons (pv 1) (pa_cons (pe_ix ix_list (pv 2) pe_int (fun _ _ => rfl)) pa_nil)))) pa_nil)) (blkOk_by (own := [("_law_j", 9)]) (N := n__law_any_program) (sc := defScope s__law_any_program) (by decide +kernel)) (fun _ _ _ _ _ => pg_name (i := 9) (sc__law_any_program).nd rfl (Or.inl rfl)) (fun _ _ _ _ _ => pts_nil) (fun _ _ _ _ _ => (pe_call G__law_name hr rfl m__law_name k__law_name b__law_name .nil pass0 (pa_cons (pv 0) (pa_cons (pv 1) pa_nil))))) pa_nil)))
    (pss_cons (ps_set (i := 8) (sc__law_any_program).nd rfl (Or.inl rfl) (pe_call G__law_any_block hr rfl m__law_any_block k__law_any_block b__law_any_block .nil pass0 (pa_cons (pv 0) (pa_cons (pv 1) (pa_cons pe_int pa_nil)))))
    (pss_cons (ps_if (PW.pt (pw_and (pt_cmpR op_eq (pe_ix ix_list (pv 2) pe_int (fun _ _ => rfl)) pe_int (nomark _)) (pw_and1 (pt_cmpR op_eq (pv 3) pe_int (nomark _))))) (pss_one (ps_set (i := 8) (sc__law_any_program).nd rfl (Or.inl rfl) (pe_op op_catA (pv 8) (pe_op op_repA (pe_tup (pa_cons (pe_tup (pa_cons (pe_lit l18) (pa_cons (pv 6) pa_nil))) pa_nil)) (pe_call G__law_next hr rfl m__law_next k__law_next b__law_next .nil pass0 (pa_cons (pv 0) (pa_cons (pv 1) (pa_cons pe_int pa_nil)))))))) pss_nil)
    (pss_one (ps_expr (pe_bm PySem.F.plainAttrs_list PySem.F.slot_list_append PySem.F.type_list_append mt_append (pv 5) (pa_cons (pe_tup (pa_cons (pv 6) (pa_cons (pv 7) (pa_cons (pv 8) pa_nil)))) pa_nil)))))))))
    (pss_one (ps_ret (pe_tup (pa_cons (pv 4) (pa_cons (pe_callTy call_tuple_of rfl T.tuple_ (by decide +kernel) (pa_cons (pv 5) pa_nil)) pa_nil))))))))))
theorem ok__law_any_program {P : Program} {w : World} {K : PySem.W.Frag} {mg : Str → Option Value} {base : Heap} {k : Nat} {p__law_next p__law_name p__law_any_block : Sp} {sp : Sp} (T : GF K mg) (F : ∃ fd, FunD K "_law_any_program" "_law_any_program" (defArgs s__law_any_program) (defBody s__law_any_program) (defScope s__law_any_program) [] [] (He.ga K "_law_any_program") fd) (m : mg "_law_any_program" = some (.ref (He.ga K "_law_any_program"))) (h__law_next : Has P w K mg base k "_law_next" a__law_next p__law_next) (h__law_name : Has P w K mg base k "_law_name" a__law_name p__law_name) (h__law_any_block : Has P w K mg base k "_law_any_block" a__law_any_block p__law_any_block)
    (len : ∀ vs H Q E, sp vs H Q E → vs.length = (a__law_any_program).length) (pure_ : ∀ vs H Q E, sp vs H Q E → t__law_any_program K p__law_next p__law_name p__law_any_block { nx := fun _ H' => Q .non H', rt := Q } (start n__law_any_program vs) H) :
    Has P w K mg base (k + 1) "_law_any_program" a__law_any_program sp := by
  obtain ⟨fd, F⟩ := F
  exact ⟨fd, FunD.ok F sc__law_any_program len fun cdv A outer s H vs Q E hr h => ⟨t__law_any_program K p__law_next p__law_name p__law_any_block, PSs.nox (de__law_any_program T hr h__law_next h__law_name h__law_any_block), pure_ vs H Q E h⟩, FunD.bindsN F (ps := a__law_any_program) (fun _ _ _ _ _ _ us hl => match us, hl with | [_, _], _ => rfl), F.kp, m⟩
theorem de__law_program_words {P : Program} {w : World} {K : PySem.W.Frag} {mg : Str → Option Value} {base : Heap} {k : Nat} {f : Addr} {cdv : Value} {A : Around} {outer : List Env} {s : Shared} {H : Hp} {E : XK} {p__law_listed p__law_block_words : Sp} (T : GF K mg) (hr : Room k (A.deeper (envOfC "_law_program_words" (defScope s__law_program_words) s.heap.objs.size f cdv))) (h__law_listed : Has P w K mg base k "_law_listed" a__law_listed p__law_listed) (h__law_block_words : Has P w K mg base k "_law_block_words" a__law_block_words p__law_block_words) :
    PSs (cxOf CX0 P w K mg base n__law_program_words "_law_program_words" (defScope s__law_program_words) f cdv A outer s H E).nox (defBody s__law_program_words) (t__law_program_words K p__law_listed p__law_block_words) := by
  obtain ⟨fd__law_listed, G__law_listed, b__law_listed, k__law_listed, m__law_listed⟩ := h__law_listed
  obtain ⟨fd__law_block_words, G__law_block_words, b__law_block_words, k__law_block_words, m__law_block_words⟩ := h__law_block_words
  exact (pss_cons (ps_set (i := 1) (sc__law_program_words).nd rfl (Or.inl rfl) (pe_lst pa_nil))
    (pss_cons (ps_for PassesOwn.never rfl (pi_tup (pe_ix ix_tup (pv 0) pe_int (fun _ _ => rfl))) (pg_name (i := 2) (sc__law_program_words).nd rfl (Or.inl rfl)) (pss_one (ps_set (i := 1) (sc__law_program_words).nd rfl (Or.inl rfl) (pe_op op_cat (pv 1) (pe_lst (pa_cons (pe_lit l38) (pa_cons (pv 2) (pa_cons (pe_lit l0) pa_nil))))))))
    (pss_cons (ps_for PassesOwn.never rfl (pi_tup (pe_ix ix_tup (pv 0) pe_int (fun _ _ => rfl))) (pg_tup rfl (pgs_cons (pg_name (i := 2) (sc__law_program_words).nd rfl (Or.inl rfl)) (pgs_cons (pg_name (i := 3) (sc__law_program_words).nd rfl (Or.inl rfl)) (pgs_cons (pg_name (i := 4) (sc__law_program_words).nd rfl (Or.inl rfl)) pgs_nil)))) (pss_one (ps_set (i := 1) (sc__law_program_words).nd rfl (Or.inl rfl) (pe_op op_cat (pe_op op_cat (pe_op op_cat (pe_op op_cat (pv 1) (pe_lst (pa_cons (pe_lit l39) (pa_cons (pv 2) (pa_cons (pe_lit l3) pa_nil))))) (pe_call G__law_listed hr rfl m__law_listed k__law_listed b__law_listed .nil pass0 (pa_cons (pe_lc (own := [("_law_one", 5)]) (g := gName 5) (tt := tYes) rfl (sc__law_program_words).nd (pi_tup (pv 3)) (blkOk_by (own := [("_law_one", 5)]) (N := n__law_program_words) (sc := defScope s__law_program_words) (by decide +kernel)) (fun _ _ _ _ _ => pg_name (i := 5) (sc__law_program_words).nd rfl (Or.inl rfl)) (fun _ _ _ _ _ => pts_nil) (fun _ _ _ _ _ => (pe_lst (pa_cons (pv 5) pa_nil)))) pa_nil))) (pe_lst (pa_cons (pe_lit l26) pa_nil))) (pe_call G__law_block_words hr rfl m__law_block_words k__law_block_words b__law_block_words .nil pass0 (pa_cons (pv 4) pa_nil))))))
    (pss_one (ps_ret (pv 1))))))
theorem ok__law_program_words {P : Program} {w : World} {K : PySem.W.Frag} {mg : Str → Option Value} {base : Heap} {k : Nat} {p__law_listed p__law_block_words : Sp} {sp : Sp} (T : GF K mg) (F : ∃ fd, FunD K "_law_program_words" "_law_program_words" (defArgs s__law_program_words) (defBody s__law_program_words) (defScope s__law_program_words) [] [] (He.ga K "_law_program_words") fd) (m : mg "_law_program_words" = some (.ref (He.ga K "_law_program_words"))) (h__law_listed : Has P w K mg base k "_law_listed" a__law_listed p__law_listed) (h__law_block_words : Has P w K mg base k "_law_block_words" a__law_block_words p__law_block_words)
    (len : ∀ vs H Q E, sp vs H Q E → vs.length = (a__law_program_words).length) (pure_ : ∀ vs H Q E, sp vs H Q E → t__law_program_words K p__law_listed p__law_block_words { nx := fun _ H' => Q .non H', rt := Q } (start n__law_program_words vs) H) :
    Has P w K mg base (k + 1) "_law_program_words" a__law_program_words sp := by
  obtain ⟨fd, F⟩ := F
  exact ⟨fd, FunD.ok F sc__law_program_words len fun cdv A outer s H vs Q E hr h => ⟨t__law_program_words K p__law_listed p__law_block_words, PSs.nox (de__law_program_words T hr h__law_listed h__law_block_words), pure_ vs H Q E h⟩, FunD.bindsN F (ps := a__law_program_words) (fun _ _ _ _ _ _ us hl => match us, hl with | [_], _ => rfl), F.kp, m⟩
end Cc
end
section
namespace Cc
open PySem PySem.Spec PyProof.Rows L2
theorem de_expression_text {P : Program} {w : World} {K : PySem.W.Frag} {mg : Str → Option Value} {base : Heap} {k : Nat} {f : Addr} {cdv : Value} {A : Around} {outer : List Env} {s : Shared} {H : Hp} {E : XK} {p_expression_text : Sp} (T : GF K mg) (hr : Room k (A.deeper (envOfC "expression_text" (defScope s_expression_text) s.heap.objs.size f cdv))) (h_expression_text : Has P w K mg base k "expression_text" a_expression_text p_expression_text) :
    PSs (cxOf CX0 P w K mg base n_expression_text "expression_text" (defScope s_expression_text) f cdv A outer s H E).nox (defBody s_expression_text) (t_expression_text K p_expression_text) := by
  obtain ⟨fd_expression_text, G_expression_text, b_expression_text, k_expression_text, m_expression_text⟩ := h_expression_text
  exact (pss_cons (ps_if (pt_cmpR op_eq (pe_ix ix_tup (pv 0) pe_int (fun _ _ => rfl)) (pe_lit l27) (nomark _)) (pss_one (ps_ret (pe_callTy call_str_int rfl T.str_ (by decide +kernel) (pa_cons (pe_ix ix_tup (pv 0) pe_int (fun _ _ => rfl)) pa_nil)))) pss_nil)
    (pss_cons (ps_if (pt_cmpR op_eq (pe_ix ix_tup (pv 0) pe_int (fun _ _ => rfl)) (pe_lit l28) (nomark _)) (pss_one (ps_ret (pe_ix ix_tup (pv 0) pe_int (fun _ _ => rfl)))) pss_nil)
    (pss_cons (ps_set (i := 1) (sc_expression_text).nd rfl (Or.inl rfl) (pe_call G_expression_text hr rfl m_expression_text k_expression_text b_expression_text .nil pass0 (pa_cons (pe_ix ix_tup (pv 0) pe_int (fun _ _ => rfl)) pa_nil)))
    (pss_one (ps_ret (pe_op op_add_str (pe_op op_add_str (pe_op op_add_str (pe_op op_add_str (pe_op op_add_str (pe_op op_add_str (pe_lit l3) (pv 1)) (pe_lit l22)) (pe_ix ix_tup (pv 0) pe_int (fun _ _ => rfl))) (pe_lit l22)) (pe_call G_expression_text hr rfl m_expression_text k_expression_text b_expression_text .nil pass0 (pa_cons (pe_ix ix_tup (pv 0) pe_int (fun _ _ => rfl)) pa_nil))) (pe_lit l26)))))))
theorem ok_expression_text {P : Program} {w : World} {K : PySem.W.Frag} {mg : Str → Option Value} {base : Heap} {k : Nat} {p_expression_text : Sp} {sp : Sp} (T : GF K mg) (F : ∃ fd, FunD K "expression_text" "expression_text" (defArgs s_expression_text) (defBody s_expression_text) (defScope s_expression_text) [] [] (He.ga K "expression_text") fd) (m : mg "expression_text" = some (.ref (He.ga K "expression_text"))) (h_expression_text : Has P w K mg base k "expression_text" a_expression_text p_expression_text)
    (len : ∀ vs H Q E, sp vs H Q E → vs.length = (a_expression_text).length) (pure_ : ∀ vs H Q E, sp vs H Q E → t_expression_text K p_expression_text { nx := fun _ H' => Q .non H', rt := Q } (start n_expression_text vs) H) :
    Has P w K mg base (k + 1) "expression_text" a_expression_text sp := by
  obtain ⟨fd, F⟩ := F
  exact ⟨fd, FunD.ok F sc_expression_text len fun cdv A outer s H vs Q E hr h => ⟨t_expression_text K p_expression_text, PSs.nox (de_expression_text T hr h_expression_text), pure_ vs H Q E h⟩, FunD.bindsN F (ps := a_expression_text) (fun _ _ _ _ _ _ us hl => match us, hl with | [_], _ => rfl), F.kp, m⟩
theorem de_end_place {P : Program} {w : World} {K : PySem.W.Frag} {mg : Str → Option Value} {base : Heap} {k : Nat} {f : Addr} {cdv : Value} {A : Around} {outer : List Env} {s : Shared} {H : Hp} {E : XK} (T : GF K mg) (hr : Room k (A.deeper (envOfC "end_place" (defScope s_end_place) s.heap.objs.size f cdv))) :
    PSs (cxOf CX0 P w K mg base n_end_place "end_place" (defScope s_end_place) f cdv A outer s H E).nox (defBody s_end_place) (t_end_place K ) := by
  exact (pss_cons (ps_set (i := 1) (sc_end_place).nd rfl (Or.inl rfl) (pe_split (pv 0) (pe_lit l9)))
    (pss_one (ps_ret (pe_tup (pa_cons (pe_callB call_len_seq rfl T.len boot_len (pa_cons (pv 1) pa_nil)) (pa_cons (pe_op op_add (pe_callB call_len_str rfl T.len boot_len (pa_cons (pe_ix ix_list (pv 1) (pe_un un_neg pe_int) (fun _ _ => rfl)) pa_nil)) pe_int) pa_nil))))))
theorem ok_end_place {P : Program} {w : World} {K : PySem.W.Frag} {mg : Str → Option Value} {base : Heap} {k : Nat} {sp : Sp} (T : GF K mg) (F : ∃ fd, FunD K "end_place" "end_place" (defArgs s_end_place) (defBody s_end_place) (defScope s_end_place) [] [] (He.ga K "end_place") fd) (m : mg "end_place" = some (.ref (He.ga K "end_place")))
    (len : ∀ vs H Q E, sp vs H Q E → vs.length = (a_end_place).length) (pure_ : ∀ vs H Q E, sp vs H Q E → t_end_place K  { nx := fun _ H' => Q .non H', rt := Q } (start n_end_place vs) H) :
    Has P w K mg base (k + 1) "end_place" a_end_place sp := by
  obtain ⟨fd, F⟩ := F
  exact ⟨fd, FunD.ok F sc_end_place len fun cdv A outer s H vs Q E hr h => ⟨t_end_place K , PSs.nox (de_end_place T hr), pure_ vs H Q E h⟩, FunD.bindsN F (ps := a_end_place) (fun _ _ _ _ _ _ us hl => match us, hl with | [_], _ => rfl), F.kp, m⟩
theorem de_Reader_step {P : Program} {w : World} {K : PySem.W.Frag} {mg : Str → Option Value} {base : Heap} {k : Nat} {f : Addr} {cdv : Value} {A : Around} {outer : List Env} {s : Shared} {H : Hp} {E : XK} (T : GF K mg) (hr : Room k (A.deeper (envOfC "Reader.step" (defScope s_Reader_step) s.heap.objs.size f cdv))) :
    PSs (cxOf CX0 P w K mg base n_Reader_step "Reader.step" (defScope s_Reader_step) f cdv A outer s H E).nox (defBody s_Reader_step) (t_Reader_step K ) := by
  exact (pss_one (ps_fld (pv 0) (pe_op op_add (pe_fld (pv 0) rfl) pe_int) rfl))
theorem ok_Reader_step {P : Program} {w : World} {K : PySem.W.Frag} {mg : Str → Option Value} {base : Heap} {k : Nat} {sp : Sp} (T : GF K mg) (F : ∃ fd, FunD K "step" "Reader.step" (defArgs s_Reader_step) (defBody s_Reader_step) (defScope s_Reader_step) [] [] (He.ma K (He.ga K "Reader") "step") fd) (M : Meth K (He.ga K "Reader") "step" (He.ma K (He.ga K "Reader") "step"))
    (len : ∀ vs H Q E, sp vs H Q E → vs.length = (a_Reader_step).length) (pure_ : ∀ vs H Q E, sp vs H Q E → t_Reader_step K  { nx := fun _ H' => Q .non H', rt := Q } (start n_Reader_step vs) H) :
    HasM P w K mg base (k + 1) "step" a_Reader_step sp := by
  obtain ⟨fd, F⟩ := F
  exact ⟨fd, FunD.ok F sc_Reader_step len fun cdv A outer s H vs Q E hr h => ⟨t_Reader_step K , PSs.nox (de_Reader_step T hr), pure_ vs H Q E h⟩, FunD.bindsN F (ps := a_Reader_step) (fun _ _ _ _ _ _ us hl => match us, hl with | [_], _ => rfl), M⟩
theorem de_read_block {P : Program} {w : World} {K : PySem.W.Frag} {mg : Str → Option Value} {base : Heap} {k : Nat} {f : Addr} {cdv : Value} {A : Around} {outer : List Env} {s : Shared} {H : Hp} {E : XK} {p_read_statement p_need_sign p_is_sign p_step : Sp} (T : GF K mg) (hr : Room k (A.deeper (envOfC "read_block" (defScope s_read_block) s.heap.objs.size f cdv))) (h_read_statement : Has P w K mg base k "read_statement" a_read_statement p_read_statement) (h_need_sign : HasM P w K mg base k "need_sign" a_Reader_need_sign p_need_sign) (h_is_sign : HasM P w K mg base k "is_sign" a_Reader_is_sign p_is_sign) (h_step : HasM P w K mg base k "step" a_Reader_step p_step) :
    PSs (cxOf CX0 P w K mg base n_read_block "read_block" (defScope s_read_block) f cdv A outer s H E).nox (defBody s_read_block) (t_read_block K p_read_statement p_need_sign p_is_sign p_step) := by
  obtain ⟨fd_read_statement, G_read_statement, b_read_statement, k_read_statement, m_read_statement⟩ := h_read_statement
  obtain ⟨fd_need_sign, G_need_sign, b_need_sign, M_need_sign⟩ := h_need_sign
  obtain ⟨fd_is_sign, G_is_sign, b_is_sign, M_is_sign⟩ := h_is_sign
  obtain ⟨fd_step, G_step, b_step, M_step⟩ := h_step
  exact (pss_cons (ps_expr (pe_meth (pv 0) T.clR M_need_sign G_need_sign hr b_need_sign .nil pass0 (pa_cons (pe_lit l41) pa_nil)))
    (pss_cons (ps_set (i := 1) (sc_read_block).nd rfl (Or.inl rfl) (pe_lst pa_nil))
    (pss_cons (ps_while PassesOwn.never (pt_not (pt_val (pe_meth (pv 0) T.clR M_is_sign G_is_sign hr b_is_sign .nil pass0 (pa_cons (pe_lit l7) pa_nil)))) (pss_one (ps_expr (pe_bm PySem.F.plainAttrs_list PySem.F.slot_list_append PySem.F.type_list_append mt_append (pv 1) (pa_cons (pe_call G_read_statement hr rfl m_read_statement k_read_statement b_read_statement .nil pass0 (pa_cons (pv 0) pa_nil)) pa_nil)))))
    (pss_cons (ps_expr (pe_meth0 (pv 0) T.clR M_step G_step hr b_step .nil pass0))
    (pss_one (ps_ret (pe_callTy call_tuple_of rfl T.tuple_ (by decide +kernel) (pa_cons (pv 1) pa_nil))))))))
theorem ok_read_block {P : Program} {w : World} {K : PySem.W.Frag} {mg : Str → Option Value} {base : Heap} {k : Nat} {p_read_statement p_need_sign p_is_sign p_step : Sp} {sp : Sp} (T : GF K mg) (F : ∃ fd, FunD K "read_block" "read_block" (defArgs s_read_block) (defBody s_read_block) (defScope s_read_block) [] [] (He.ga K "read_block") fd) (m : mg "read_block" = some (.ref (He.ga K "read_block"))) (h_read_statement : Has P w K mg base k "read_statement" a_read_statement p_read_statement) (h_need_sign : HasM P w K mg base k "need_sign" a_Reader_need_sign p_need_sign) (h_is_sign : HasM P w K mg base k "is_sign" a_Reader_is_sign p_is_sign) (h_step : HasM P w K mg base k "step" a_Reader_step p_step)
    (len : ∀ vs H Q E, sp vs H Q E → vs.length = (a_read_block).length) (pure_ : ∀ vs H Q E, sp vs H Q E → t_read_block K p_read_statement p_need_sign p_is_sign p_step { nx := fun _ H' => Q .non H', rt := Q } (start n_read_block vs) H) :
    Has P w K mg base (k + 1) "read_block" a_read_block sp := by
  obtain ⟨fd, F⟩ := F
  exact ⟨fd, FunD.ok F sc_read_block len fun cdv A outer s H vs Q E hr h => ⟨t_read_block K p_read_statement p_need_sign p_is_sign p_step, PSs.nox (de_read_block T hr h_read_statement h_need_sign h_is_sign h_step), pure_ vs H Q E h⟩, FunD.bindsN F (ps := a_read_block) (fun _ _ _ _ _ _ us hl => match us, hl with | [_], _ => rfl), F.kp, m⟩
theorem de_read_condition {P : Program} {w : World} {K : PySem.W.Frag} {mg : Str → Option Value} {base : Heap} {k : Nat} {f : Addr} {cdv : Value} {A : Around} {outer : List Env} {s : Shared} {H : Hp} {E : XK} {p_read_condition p_read_expression p_is_word p_step p_is_sign p_fail p_value p_need_sign p_kind : Sp} (T : GF K mg) (hr : Room k (A.deeper (envOfC "read_condition" (defScope s_read_condition) s.heap.objs.size f cdv))) (h_read_condition : Has P w K mg base k "read_condition" a_read_condition p_read_condition) (h_read_expression : Has P w K mg base k "read_expression" a_read_expression p_read_expression) (h_is_word : HasM P w K mg base k "is_word" a_Reader_is_word p_is_word) (h_step : HasM P w K mg base k "step" a_Reader_step p_step) (h_is_sign : HasM P w K mg base k "is_sign" a_Reader_is_sign p_is_sign) (h_fail : HasM P w K mg base k "fail" a_Reader_fail p_fail) (h_value : HasM P w K mg base k "value" a_Reader_value p_value) (h_need_sign : HasM P w K mg base k "need_sign" a_Reader_need_sign p_need_sign) (h_kind : HasM P w K mg base k "kind" a_Reader_kind p_kind) :
    PSs (cxOf CX0 P w K mg base n_read_condition "read_condition" (defScope s_read_condition) f cdv A outer s H E).nox (defBody s_read_condition) (t_read_condition K p_read_condition p_read_expression p_is_word p_step p_is_sign p_fail p_value p_need_sign p_kind) := by
  obtain ⟨fd_read_condition, G_read_condition, b_read_condition, k_read_condition, m_read_condition⟩ := h_read_condition
  obtain ⟨fd_read_expression, G_read_expression, b_read_expression, k_read_expression, m_read_expression⟩ := h_read_expression
  obtain ⟨fd_is_word, G_is_word, b_is_word, M_is_word⟩ := h_is_word
  obtain ⟨fd_step, G_step, b_step, M_step⟩ := h_step
  obtain ⟨fd_is_sign, G_is_sign, b_is_sign, M_is_sign⟩ := h_is_sign
  obtain ⟨fd_fail, G_fail, b_fail, M_fail⟩ := h_fail
  obtain ⟨fd_value, G_value, b_value, M_value⟩ := h_value
  obtain ⟨fd_need_sign, G_need_sign, b_need_sign, M_need_sign⟩ := h_need_sign
  obtain ⟨fd_kind, G_kind, b_kind, M_kind⟩ := h_kind
  exact (pss_cons (ps_if (pt_val (pe_meth (pv 0) T.clR M_is_word G_is_word hr b_is_word .nil pass0 (pa_cons (pe_lit l29) pa_nil))) (pss_cons (ps_expr (pe_meth0 (pv 0) T.clR M_step G_step hr b_step .nil pass0))
    (pss_one (ps_ret (pe_tup (pa_cons (pe_lit l29) (pa_cons (pe_call G_read_condition hr rfl m_read_condition k_read_condition b_read_condition .nil pass0 (pa_cons (pv 0) pa_nil)) pa_nil)))))) pss_nil)
    (pss_cons (ps_if (pt_val (pe_meth (pv 0) T.clR M_is_sign G_is_sign hr b_is_sign .nil pass0 (pa_cons (pe_lit l32) pa_nil))) (pss_cons (ps_expr (pe_meth0 (pv 0) T.clR M_step G_step hr b_step .nil pass0))
    (pss_cons (ps_set (i := 1) (sc_read_condition).nd rfl (Or.inl rfl) (pe_call G_read_condition hr rfl m_read_condition k_read_condition b_read_condition .nil pass0 (pa_cons (pv 0) pa_nil)))
    (pss_cons (ps_if (PW.pt (pw_and (pt_not (pt_val (pe_meth (pv 0) T.clR M_is_word G_is_word hr b_is_word .nil pass0 (pa_cons (pe_lit l50) pa_nil)))) (pw_and1 (pt_not (pt_val (pe_meth (pv 0) T.clR M_is_word G_is_word hr b_is_word .nil pass0 (pa_cons (pe_lit l51) pa_nil))))))) (pss_one (ps_expr (pe_meth0 (pv 0) T.clR M_fail G_fail hr b_fail .nil pass0))) pss_nil)
    (pss_cons (ps_set (i := 2) (sc_read_condition).nd rfl (Or.inl rfl) (pe_meth0 (pv 0) T.clR M_value G_value hr b_value .nil pass0))
    (pss_cons (ps_expr (pe_meth0 (pv 0) T.clR M_step G_step hr b_step .nil pass0))
    (pss_cons (ps_set (i := 3) (sc_read_condition).nd rfl (Or.inl rfl) (pe_call G_read_condition hr rfl m_read_condition k_read_condition b_read_condition .nil pass0 (pa_cons (pv 0) pa_nil)))
    (pss_cons (ps_expr (pe_meth (pv 0) T.clR M_need_sign G_need_sign hr b_need_sign .nil pass0 (pa_cons (pe_lit l33) pa_nil)))
    (pss_one (ps_ret (pe_tup (pa_cons (pv 2) (pa_cons (pv 1) (pa_cons (pv 3) pa_nil))))))))))))) pss_nil)
    (pss_cons (ps_set (i := 1) (sc_read_condition).nd rfl (Or.inl rfl) (pe_call G_read_expression hr rfl m_read_expression k_read_expression b_read_expression .nil pass0 (pa_cons (pv 0) pa_nil)))
    (pss_cons (ps_if (PW.pt (pw_or (pt_cmpR op_ne (pe_meth0 (pv 0) T.clR M_kind G_kind hr b_kind .nil pass0) (pe_lit l36) (nomark _)) (pw_or1 (pt_cmpR op_notIn_seq (pe_meth0 (pv 0) T.clR M_value G_value hr b_value .nil pass0) (pe_glob rfl T.RELATIONS rfl) rfl)))) (pss_one (ps_expr (pe_meth0 (pv 0) T.clR M_fail G_fail hr b_fail .nil pass0))) pss_nil)
    (pss_cons (ps_set (i := 4) (sc_read_condition).nd rfl (Or.inl rfl) (pe_meth0 (pv 0) T.clR M_value G_value hr b_value .nil pass0))
    (pss_cons (ps_expr (pe_meth0 (pv 0) T.clR M_step G_step hr b_step .nil pass0))
    (pss_one (ps_ret (pe_tup (pa_cons (pe_lit l31) (pa_cons (pv 4) (pa_cons (pv 1) (pa_cons (pe_call G_read_expression hr rfl m_read_expression k_read_expression b_read_expression .nil pass0 (pa_cons (pv 0) pa_nil)) pa_nil)))))))))))))
theorem ok_read_condition {P : Program} {w : World} {K : PySem.W.Frag} {mg : Str → Option Value} {base : Heap} {k : Nat} {p_read_condition p_read_expression p_is_word p_step p_is_sign p_fail p_value p_need_sign p_kind : Sp} {sp : Sp} (T : GF K mg) (F : ∃ fd, FunD K "read_condition" "read_condition" (defArgs s_read_condition) (defBody s_read_condition) (defScope s_read_condition) [] [] (He.ga K "read_condition") fd) (m : mg "read_condition" = some (.ref (He.ga K "read_condition"))) (h_read_condition : Has P w K mg base k "read_condition" a_read_condition p_read_condition) (h_read_expression : Has P w K mg base k "read_expression" a_read_expression p_read_expression) (h_is_word : HasM P w K mg base k "is_word" a_Reader_is_word p_is_word) (h_step : HasM P w K mg base k "step" a_Reader_step p_step) (h_is_sign : HasM P w K mg base k "is_sign" a_Reader_is_sign p_is_sign) (h_fail : HasM P w K mg base k "fail" a_Reader_fail p_fail) (h_value : HasM P w K mg base k "value" a_Reader_value p_value) (h_need_sign : HasM P w K mg base k "need_sign" a_Reader_need_sign p_need_sign) (h_kind : HasM P w K mg base k "kind" a_Reader_kind p_kind)
    (len : ∀ vs H Q E, sp vs H Q E → vs.length = (a_read_condition).length) (pure_ : ∀ vs H Q E, sp vs H Q E → t_read_condition K p_read_condition p_read_expression p_is_word p_step p_is_sign p_fail p_value p_need_sign p_kind { nx := fun _ H' => Q .non H', rt := Q } (start n_read_condition vs) H) :
    Has P w K mg base (k + 1) "read_condition" a_read_condition sp := by
  obtain ⟨fd, F⟩ := F
  exact ⟨fd, FunD.ok F sc_read_condition len fun cdv A outer s H vs Q E hr h => ⟨t_read_condition K p_read_condition p_read_expression p_is_word p_step p_is_sign p_fail p_value p_need_sign p_kind, PSs.nox (de_read_condition T hr h_read_condition h_read_expression h_is_word h_step h_is_sign h_fail h_value h_need_sign h_kind), pure_ vs H Q E h⟩, FunD.bindsN F (ps := a_read_condition) (fun _ _ _ _ _ _ us hl => match us, hl with | [_], _ => rfl), F.kp, m⟩
theorem de__law_any_expression {P : Program} {w : World} {K : PySem.W.Frag} {mg : Str → Option Value} {base : Heap} {k : Nat} {f : Addr} {cdv : Value} {A : Around} {outer : List Env} {s : Shared} {H : Hp} {E : XK} {p__law_next p__law_any_expression p__law_name : Sp} (T : GF K mg) (hr : Room k (A.deeper (envOfC "_law_any_expression" (defScope s__law_any_expression) s.heap.objs.size f cdv))) (h__law_next : Has P w K mg base k "_law_next" a__law_next p__law_next) (h__law_any_expression : Has P w K mg base k "_law_any_expression" a__law_any_expression p__law_any_expression) (h__law_name : Has P w K mg base k "_law_name" a__law_name p__law_name) :
    PSs (cxOf CX0 P w K mg base n__law_any_expression "_law_any_expression" (defScope s__law_any_expression) f cdv A outer s H E).nox (defBody s__law_any_expression) (t__law_any_expression K p__law_next p__law_any_expression p__law_name) := by
  obtain ⟨fd__law_next, G__law_next, b__law_next, k__law_next, m__law_next⟩ := h__law_next
  obtain ⟨fd__law_any_expression, G__law_any_expression, b__law_any_expression, k__law_any_expression, m__law_any_expression⟩ := h__law_any_expression
  obtain ⟨fd__law_name, G__law_name, b__law_name, k__law_name, m__law_name⟩ := h__law_name
  exact (pss_cons (ps_set (i := 3) (sc__law_any_expression).nd rfl (Or.inl rfl) (pe_call G__law_next hr rfl m__law_next k__law_next b__law_next .nil pass0 (pa_cons (pv 0) (pa_cons (pv 1) (pa_cons pe_int pa_nil)))))
    (pss_cons (ps_if (PW.pt (pw_and (pt_cmpR op_gt (pv 2) pe_int (nomark _)) (pw_and1 (pt_cmpR op_lt (pv 3) pe_int (nomark _))))) (pss_cons (ps_set (i := 4) (sc__law_any_expression).nd rfl (Or.inl rfl) (pe_call G__law_any_expression hr rfl m__law_any_expression k__law_any_expression b__law_any_expression .nil pass0 (pa_cons (pv 0) (pa_cons (pv 1) (pa_cons (pe_op op_sub (pv 2) pe_int) pa_nil)))))
    (pss_cons (ps_set (i := 5) (sc__law_any_expression).nd rfl (Or.inl rfl) (pe_ix ix_list (pe_lst (pa_cons (pe_lit l57) (pa_cons (pe_lit l49) (pa_cons (pe_lit l56) (pa_cons (pe_lit l55) (pa_cons (pe_lit l47) pa_nil)))))) (pe_call G__law_next hr rfl m__law_next k__law_next b__law_next .nil pass0 (pa_cons (pv 0) (pa_cons (pv 1) (pa_cons pe_int pa_nil)))) (fun _ _ => rfl)))
    (pss_one (ps_ret (pe_tup (pa_cons (pe_lit l48) (pa_cons (pv 5) (pa_cons (pv 4) (pa_cons (pe_call G__law_any_expression hr rfl m__law_any_expression k__law_any_expression b__law_any_expression .nil pass0 (pa_cons (pv 0) (pa_cons (pv 1) (pa_cons (pe_op op_sub (pv 2) pe_int) pa_nil)))) pa_nil))))))))) pss_nil)
    (pss_cons (ps_if (pt_cmpR op_eq (pv 3) pe_int (nomark _)) (pss_one (ps_ret (pe_tup (pa_cons (pe_lit l27) (pa_cons (pe_op op_mul (pe_ix ix_list (pe_lst (pa_cons pe_int (pa_cons (pe_un un_neg pe_int) pa_nil))) (pe_call G__law_next hr rfl m__law_next k__law_next b__law_next .nil pass0 (pa_cons (pv 0) (pa_cons (pv 1) (pa_cons pe_int pa_nil)))) (fun _ _ => rfl)) (pe_call G__law_next hr rfl m__law_next k__law_next b__law_next .nil pass0 (pa_cons (pv 0) (pa_cons (pv 1) (pa_cons (pe_ix ix_list (pe_lst (pa_cons pe_int (pa_cons pe_int pa_nil))) (pe_call G__law_next hr rfl m__law_next k__law_next b__law_next .nil pass0 (pa_cons (pv 0) (pa_cons (pv 1) (pa_cons pe_int pa_nil)))) (fun _ _ => rfl)) pa_nil))))) pa_nil))))) pss_nil)
    (pss_one (ps_ret (pe_tup (pa_cons (pe_lit l28) (pa_cons (pe_call G__law_name hr rfl m__law_name k__law_name b__law_name .nil pass0 (pa_cons (pv 0) (pa_cons (pv 1) pa_nil))) pa_nil))))))))
theorem ok__law_any_expression {P : Program} {w : World} {K : PySem.W.Frag} {mg : Str → Option Value} {base : Heap} {k : Nat} {p__law_next p__law_any_expression p__law_name : Sp} {sp : Sp} (T : GF K mg) (F : ∃ fd, FunD K "_law_any_expression" "_law_any_expression" (defArgs s__law_any_expression) (defBody s__law_any_expression) (defScope s__law_any_expression) [] [] (He.ga K "_law_any_expression") fd) (m : mg "_law_any_expression" = some (.ref (He.ga K "_law_any_expression"))) (h__law_next : Has P w K mg base k "_law_next" a__law_next p__law_next) (h__law_any_expression : Has P w K mg base k "_law_any_expression" a__law_any_expression p__law_any_expression) (h__law_name : Has P w K mg base k "_law_name" a__law_name p__law_name)
    (len : ∀ vs H Q E, sp vs H Q E → vs.length = (a__law_any_expression).length) (pure_ : ∀ vs H Q E, sp vs H Q E → t__law_any_expression K p__law_next p__law_any_expression p__law_name { nx := fun _ H' => Q .non H', rt := Q } (start n__law_any_expression vs) H) :
    Has P w K mg base (k + 1) "_law_any_expression" a__law_any_expression sp := by
  obtain ⟨fd, F⟩ := F
  exact ⟨fd, FunD.ok F sc__law_any_expression len fun cdv A outer s H vs Q E hr h => ⟨t__law_any_expression K p__law_next p__law_any_expression p__law_name, PSs.nox (de__law_any_expression T hr h__law_next h__law_any_expression h__law_name), pure_ vs H Q E h⟩, FunD.bindsN F (ps := a__law_any_expression) (fun _ _ _ _ _ _ us hl => match us, hl with | [_, _, _], _ => rfl), F.kp, m⟩
theorem de__law_listed {P : Program} {w : World} {K : PySem.W.Frag} {mg : Str → Option Value} {base : Heap} {k : Nat} {f : Addr} {cdv : Value} {A : Around} {outer : List Env} {s : Shared} {H : Hp} {E : XK} (T : GF K mg) (hr : Room k (A.deeper (envOfC "_law_listed" (defScope s__law_listed) s.heap.objs.size f cdv))) :
    PSs (cxOf CX0 P w K mg base n__law_listed "_law_listed" (defScope s__law_listed) f cdv A outer s H E).nox (defBody s__law_listed) (t__law_listed K ) := by
  exact (pss_cons (ps_set (i := 1) (sc__law_listed).nd rfl (Or.inl rfl) (pe_lst pa_nil))
    (pss_cons (ps_for PassesOwn.never rfl (pi_range1 rfl T.range (pa_cons (pe_callB call_len_seq rfl T.len boot_len (pa_cons (pv 0) pa_nil)) pa_nil)) (pg_name (i := 2) (sc__law_listed).nd rfl (Or.inl rfl)) (pss_cons (ps_if (pt_cmpR op_gt (pv 2) pe_int (nomark _)) (pss_one (ps_expr (pe_bm PySem.F.plainAttrs_list PySem.F.slot_list_append PySem.F.type_list_append mt_append (pv 1) (pa_cons (pe_lit l40) pa_nil)))) pss_nil)
    (pss_one (ps_set (i := 1) (sc__law_listed).nd rfl (Or.inl rfl) (pe_op op_cat (pv 1) (pe_ix ix_list (pv 0) (pv 2) (fun _ _ => rfl)))))))
    (pss_one (ps_ret (pv 1)))))
theorem ok__law_listed {P : Program} {w : World} {K : PySem.W.Frag} {mg : Str → Option Value} {base : Heap} {k : Nat} {sp : Sp} (T : GF K mg) (F : ∃ fd, FunD K "_law_listed" "_law_listed" (defArgs s__law_listed) (defBody s__law_listed) (defScope s__law_listed) [] [] (He.ga K "_law_listed") fd) (m : mg "_law_listed" = some (.ref (He.ga K "_law_listed")))
    (len : ∀ vs H Q E, sp vs H Q E → vs.length = (a__law_listed).length) (pure_ : ∀ vs H Q E, sp vs H Q E → t__law_listed K  { nx := fun _ H' => Q .non H', rt := Q } (start n__law_listed vs) H) :
    Has P w K mg base (k + 1) "_law_listed" a__law_listed sp := by
  obtain ⟨fd, F⟩ := F
  exact ⟨fd, FunD.ok F sc__law_listed len fun cdv A outer s H vs Q E hr h => ⟨t__law_listed K , PSs.nox (de__law_listed T hr), pure_ vs H Q E h⟩, FunD.bindsN F (ps := a__law_listed) (fun _ _ _ _ _ _ us hl => match us, hl with | [_], _ => rfl), F.kp, m⟩
theorem de__law_gap {P : Program} {w : World} {K : PySem.W.Frag} {mg : Str → Option Value} {base : Heap} {k : Nat} {f : Addr} {cdv : Value} {A : Around} {outer : List Env} {s : Shared} {H : Hp} {E : XK} {p__law_sign : Sp} (T : GF K mg) (hr : Room k (A.deeper (envOfC "_law_gap" (defScope s__law_gap) s.heap.objs.size f cdv))) (h__law_sign : Has P w K mg base k "_law_sign" a__law_sign p__law_sign) :
    PSs (cxOf CX0 P w K mg base n__law_gap "_law_gap" (defScope s__law_gap) f cdv A outer s H E).nox (defBody s__law_gap) (t__law_gap K p__law_sign) := by
  obtain ⟨fd__law_sign, G__law_sign, b__law_sign, k__law_sign, m__law_sign⟩ := h__law_sign
  exact (pss_cons (ps_if (PW.pt (pw_or (pt_cmpR op_in_seq (pv 2) (pe_tup (pa_cons (pe_lit l0) (pa_cons (pe_lit l40) (pa_cons (pe_lit l26) (pa_cons (pe_lit l33) pa_nil))))) rfl) (pw_or1 (pt_cmpR op_in_seq (pv 1) (pe_tup (pa_cons (pe_lit l3) (pa_cons (pe_lit l32) pa_nil))) rfl)))) (pss_one (ps_ret pe_bl)) pss_nil)
    (pss_cons (ps_if (PW.pt (pw_and (pt_cmpR op_eq (pv 2) (pe_lit l3) (nomark _)) (pw_and1 (pt_cmpR op_in_seq (pv 0) (pe_tup (pa_cons (pe_lit l39) (pa_cons (pe_lit l23) pa_nil))) rfl)))) (pss_one (ps_ret pe_bl)) pss_nil)
    (pss_one (ps_ret (pe_not (pe_and (pe_cmpR op_eq (pv 1) (pe_lit l49) (nomark _)) (pe_one (pe_call G__law_sign hr rfl m__law_sign k__law_sign b__law_sign .nil pass0 (pa_cons (pv 0) pa_nil)))))))))
theorem ok__law_gap {P : Program} {w : World} {K : PySem.W.Frag} {mg : Str → Option Value} {base : Heap} {k : Nat} {p__law_sign : Sp} {sp : Sp} (T : GF K mg) (F : ∃ fd, FunD K "_law_gap" "_law_gap" (defArgs s__law_gap) (defBody s__law_gap) (defScope s__law_gap) [] [] (He.ga K "_law_gap") fd) (m : mg "_law_gap" = some (.ref (He.ga K "_law_gap"))) (h__law_sign : Has P w K mg base k "_law_sign" a__law_sign p__law_sign)
    (len : ∀ vs H Q E, sp vs H Q E → vs.length = (a__law_gap).length) (pure_ : ∀ vs H Q E, sp vs H Q E → t__law_gap K p__law_sign { nx := fun _ H' => Q .non H', rt := Q } (start n__law_gap vs) H) :
    Has P w K mg base (k + 1) "_law_gap" a__law_gap sp := by
  obtain ⟨fd, F⟩ := F
  exact ⟨fd, FunD.ok F sc__law_gap len fun cdv A outer s H vs Q E hr h => ⟨t__law_gap K p__law_sign, PSs.nox (de__law_gap T hr h__law_sign), pure_ vs H Q E h⟩, FunD.bindsN F (ps := a__law_gap) (fun _ _ _ _ _ _ us hl => match us, hl with | [_, _, _], _ => rfl), F.kp, m⟩
end Cc
end
section
namespace Cc
open PySem PySem.Spec PyProof.Rows L2
theorem de_condition_text {P : Program} {w : World} {K : PySem.W.Frag} {mg : Str → Option Value} {base : Heap} {k : Nat} {f : Addr} {cdv : Value} {A : Around} {outer : List Env} {s : Shared} {H : Hp} {E : XK} {p_condition_text p_expression_text : Sp} (T : GF K mg) (hr : Room k (A.deeper (envOfC "condition_text" (defScope s_condition_text) s.heap.objs.size f cdv))) (h_condition_text : Has P w K mg base k "condition_text" a_condition_text p_condition_text) (h_expression_text : Has P w K mg base k "expression_text" a_expression_text p_expression_text) :
    PSs (cxOf CX0 P w K mg base n_condition_text "condition_text" (defScope s_condition_text) f cdv A outer s H E).nox (defBody s_condition_text) (t_condition_text K p_condition_text p_expression_text) := by
  obtain ⟨fd_condition_text, G_condition_text, b_condition_text, k_condition_text, m_condition_text⟩ := h_condition_text
  obtain ⟨fd_expression_text, G_expression_text, b_expression_text, k_expression_text, m_expression_text⟩ := h_expression_text
  exact (pss_cons (ps_set (i := 1) (sc_condition_text).nd rfl (Or.inl rfl) (pe_ix ix_tup (pv 0) pe_int (fun _ _ => rfl)))
    (pss_cons (ps_if (pt_cmpR op_eq (pv 1) (pe_lit l29) (nomark _)) (pss_one (ps_ret (pe_op op_add_str (pe_lit l30) (pe_call G_condition_text hr rfl m_condition_text k_condition_text b_condition_text .nil pass0 (pa_cons (pe_ix ix_tup (pv 0) pe_int (fun _ _ => rfl)) pa_nil))))) pss_nil)
    (pss_cons (ps_if (pt_cmpR op_eq (pv 1) (pe_lit l31) (nomark _)) (pss_cons (ps_set (i := 2) (sc_condition_text).nd rfl (Or.inl rfl) (pe_call G_expression_text hr rfl m_expression_text k_expression_text b_expression_text .nil pass0 (pa_cons (pe_ix ix_tup (pv 0) pe_int (fun _ _ => rfl)) pa_nil)))
    (pss_one (ps_ret (pe_op op_add_str (pe_op op_add_str (pe_op op_add_str (pe_op op_add_str (pv 2) (pe_lit l22)) (pe_ix ix_tup (pv 0) pe_int (fun _ _ => rfl))) (pe_lit l22)) (pe_call G_expression_text hr rfl m_expression_text k_expression_text b_expression_text .nil pass0 (pa_cons (pe_ix ix_tup (pv 0) pe_int (fun _ _ => rfl)) pa_nil)))))) pss_nil)
    (pss_one (ps_ret (pe_op op_add_str (pe_op op_add_str (pe_op op_add_str (pe_op op_add_str (pe_op op_add_str (pe_op op_add_str (pe_lit l32) (pe_call G_condition_text hr rfl m_condition_text k_condition_text b_condition_text .nil pass0 (pa_cons (pe_ix ix_tup (pv 0) pe_int (fun _ _ => rfl)) pa_nil))) (pe_lit l22)) (pv 1)) (pe_lit l22)) (pe_call G_condition_text hr rfl m_condition_text k_condition_text b_condition_text .nil pass0 (pa_cons (pe_ix ix_tup (pv 0) pe_int (fun _ _ => rfl)) pa_nil))) (pe_lit l33)))))))
theorem ok_condition_text {P : Program} {w : World} {K : PySem.W.Frag} {mg : Str → Option Value} {base : Heap} {k : Nat} {p_condition_text p_expression_text : Sp} {sp : Sp} (T : GF K mg) (F : ∃ fd, FunD K "condition_text" "condition_text" (defArgs s_condition_text) (defBody s_condition_text) (defScope s_condition_text) [] [] (He.ga K "condition_text") fd) (m : mg "condition_text" = some (.ref (He.ga K "condition_text"))) (h_condition_text : Has P w K mg base k "condition_text" a_condition_text p_condition_text) (h_expression_text : Has P w K mg base k "expression_text" a_expression_text p_expression_text)
    (len : ∀ vs H Q E, sp vs H Q E → vs.length = (a_condition_text).length) (pure_ : ∀ vs H Q E, sp vs H Q E → t_condition_text K p_condition_text p_expression_text { nx := fun _ H' => Q .non H', rt := Q } (start n_condition_text vs) H) :
    Has P w K mg base (k + 1) "condition_text" a_condition_text sp := by
  obtain ⟨fd, F⟩ := F
  exact ⟨fd, FunD.ok F sc_condition_text len fun cdv A outer s H vs Q E hr h => ⟨t_condition_text K p_condition_text p_expression_text, PSs.nox (de_condition_text T hr h_condition_text h_expression_text), pure_ vs H Q E h⟩, FunD.bindsN F (ps := a_condition_text) (fun _ _ _ _ _ _ us hl => match us, hl with | [_], _ => rfl), F.kp, m⟩
theorem de_Reader_init {P : Program} {w : World} {K : PySem.W.Frag} {mg : Str → Option Value} {base : Heap} {k : Nat} {f : Addr} {cdv : Value} {A : Around} {outer : List Env} {s : Shared} {H : Hp} {E : XK} {p_tokens p_end_place : Sp} (T : GF K mg) (hr : Room k (A.deeper (envOfC "Reader.__init__" (defScope s_Reader_init) s.heap.objs.size f cdv))) (h_tokens : Has P w K mg base k "tokens" a_tokens p_tokens) (h_end_place : Has P w K mg base k "end_place" a_end_place p_end_place) :
    PSs (cxOf CX0 P w K mg base n_Reader_init "Reader.__init__" (defScope s_Reader_init) f cdv A outer s H E).nox (defBody s_Reader_init) (t_Reader_init K p_tokens p_end_place) := by
  obtain ⟨fd_tokens, G_tokens, b_tokens, k_tokens, m_tokens⟩ := h_tokens
  obtain ⟨fd_end_place, G_end_place, b_end_place, k_end_place, m_end_place⟩ := h_end_place
  exact (pss_cons (ps_fld (pv 0) (pe_call G_tokens hr rfl m_tokens k_tokens b_tokens .nil pass0 (pa_cons (pv 1) pa_nil)) rfl)
    (pss_cons (ps_fld (pv 0) (pe_call G_end_place hr rfl m_end_place k_end_place b_end_place .nil pass0 (pa_cons (pv 1) pa_nil)) rfl)
    (pss_one (ps_fld (pv 0) pe_int rfl))))
theorem ok_Reader_init {P : Program} {w : World} {K : PySem.W.Frag} {mg : Str → Option Value} {base : Heap} {k : Nat} {p_tokens p_end_place : Sp} {sp : Sp} (T : GF K mg) (F : ∃ fd, FunD K "__init__" "Reader.__init__" (defArgs s_Reader_init) (defBody s_Reader_init) (defScope s_Reader_init) [] [] (He.ma K (He.ga K "Reader") "__init__") fd) (h_tokens : Has P w K mg base k "tokens" a_tokens p_tokens) (h_end_place : Has P w K mg base k "end_place" a_end_place p_end_place)
    (len : ∀ vs H Q E, sp vs H Q E → vs.length = (a_Reader_init).length) (pure_ : ∀ vs H Q E, sp vs H Q E → t_Reader_init K p_tokens p_end_place { nx := fun _ H' => Q .non H', rt := Q } (start n_Reader_init vs) H) :
    HasI P w K mg base (k + 1) a_Reader_init sp := by
  obtain ⟨fd, F⟩ := F
  exact ⟨fd, FunD.ok F sc_Reader_init len fun cdv A outer s H vs Q E hr h => ⟨t_Reader_init K p_tokens p_end_place, PSs.nox (de_Reader_init T hr h_tokens h_end_place), pure_ vs H Q E h⟩, FunD.bindsN F (ps := a_Reader_init) (fun _ _ _ _ _ _ us hl => match us, hl with | [_, _], _ => rfl)⟩
theorem de_Reader_need_sign {P : Program} {w : World} {K : PySem.W.Frag} {mg : Str → Option Value} {base : Heap} {k : Nat} {f : Addr} {cdv : Value} {A : Around} {outer : List Env} {s : Shared} {H : Hp} {E : XK} {p_is_sign p_fail p_step : Sp} (T : GF K mg) (hr : Room k (A.deeper (envOfC "Reader.need_sign" (defScope s_Reader_need_sign) s.heap.objs.size f cdv))) (h_is_sign : HasM P w K mg base k "is_sign" a_Reader_is_sign p_is_sign) (h_fail : HasM P w K mg base k "fail" a_Reader_fail p_fail) (h_step : HasM P w K mg base k "step" a_Reader_step p_step) :
    PSs (cxOf CX0 P w K mg base n_Reader_need_sign "Reader.need_sign" (defScope s_Reader_need_sign) f cdv A outer s H E).nox (defBody s_Reader_need_sign) (t_Reader_need_sign K p_is_sign p_fail p_step) := by
  obtain ⟨fd_is_sign, G_is_sign, b_is_sign, M_is_sign⟩ := h_is_sign
  obtain ⟨fd_fail, G_fail, b_fail, M_fail⟩ := h_fail
  obtain ⟨fd_step, G_step, b_step, M_step⟩ := h_step
  exact (pss_cons (ps_if (pt_not (pt_val (pe_meth (pv 0) T.clR M_is_sign G_is_sign hr b_is_sign .nil pass0 (pa_cons (pv 1) pa_nil)))) (pss_one (ps_expr (pe_meth0 (pv 0) T.clR M_fail G_fail hr b_fail .nil pass0))) pss_nil)
    (pss_one (ps_expr (pe_meth0 (pv 0) T.clR M_step G_step hr b_step .nil pass0))))
theorem ok_Reader_need_sign {P : Program} {w : World} {K : PySem.W.Frag} {mg : Str → Option Value} {base : Heap} {k : Nat} {p_is_sign p_fail p_step : Sp} {sp : Sp} (T : GF K mg) (F : ∃ fd, FunD K "need_sign" "Reader.need_sign" (defArgs s_Reader_need_sign) (defBody s_Reader_need_sign) (defScope s_Reader_need_sign) [] [] (He.ma K (He.ga K "Reader") "need_sign") fd) (M : Meth K (He.ga K "Reader") "need_sign" (He.ma K (He.ga K "Reader") "need_sign")) (h_is_sign : HasM P w K mg base k "is_sign" a_Reader_is_sign p_is_sign) (h_fail : HasM P w K mg base k "fail" a_Reader_fail p_fail) (h_step : HasM P w K mg base k "step" a_Reader_step p_step)
    (len : ∀ vs H Q E, sp vs H Q E → vs.length = (a_Reader_need_sign).length) (pure_ : ∀ vs H Q E, sp vs H Q E → t_Reader_need_sign K p_is_sign p_fail p_step { nx := fun _ H' => Q .non H', rt := Q } (start n_Reader_need_sign vs) H) :
    HasM P w K mg base (k + 1) "need_sign" a_Reader_need_sign sp := by
  obtain ⟨fd, F⟩ := F
  exact ⟨fd, FunD.ok F sc_Reader_need_sign len fun cdv A outer s H vs Q E hr h => ⟨t_Reader_need_sign K p_is_sign p_fail p_step, PSs.nox (de_Reader_need_sign T hr h_is_sign h_fail h_step), pure_ vs H Q E h⟩, FunD.bindsN F (ps := a_Reader_need_sign) (fun _ _ _ _ _ _ us hl => match us, hl with | [_, _], _ => rfl), M⟩
theorem de_read_statement {P : Program} {w : World} {K : PySem.W.Frag} {mg : Str → Option Value} {base : Heap} {k : Nat} {f : Addr} {cdv : Value} {A : Around} {outer : List Env} {s : Shared} {H : Hp} {E : XK} {p_read_if p_read_condition p_read_block p_read_call p_read_expression p_kind p_value p_step p_need_name p_need_sign : Sp} (T : GF K mg) (hr : Room k (A.deeper (envOfC "read_statement" (defScope s_read_statement) s.heap.objs.size f cdv))) (h_read_if : Has P w K mg base k "read_if" a_read_if p_read_if) (h_read_condition : Has P w K mg base k "read_condition" a_read_condition p_read_condition) (h_read_block : Has P w K mg base k "read_block" a_read_block p_read_block) (h_read_call : Has P w K mg base k "read_call" a_read_call p_read_call) (h_read_expression : Has P w K mg base k "read_expression" a_read_expression p_read_expression) (h_kind : HasM P w K mg base k "kind" a_Reader_kind p_kind) (h_value : HasM P w K mg base k "value" a_Reader_value p_value) (h_step : HasM P w K mg base k "step" a_Reader_step p_step) (h_need_name : HasM P w K mg base k "need_name" a_Reader_need_name p_need_name) (h_need_sign : HasM P w K mg base k "need_sign" a_Reader_need_sign p_need_sign) :
    PSs (cxOf CX0 P w K mg base n_read_statement "read_statement" (defScope s_read_statement) f cdv A outer s H E).nox (defBody s_read_statement) (t_read_statement K p_read_if p_read_condition p_read_block p_read_call p_read_expression p_kind p_value p_step p_need_name p_need_sign) := by
  obtain ⟨fd_read_if, G_read_if, b_read_if, k_read_if, m_read_if⟩ := h_read_if
  obtain ⟨fd_read_condition, G_read_condition, b_read_condition, k_read_condition, m_read_condition⟩ := h_read_condition
  obtain ⟨fd_read_block, G_read_block, b_read_block, k_read_block, m_read_block⟩ := h_read_block
  obtain ⟨fd_read_call, G_read_call, b_read_call, k_read_call, m_read_call⟩ := h_read_call
  obtain ⟨fd_read_expression, G_read_expression, b_read_expression, k_read_expression, m_read_expression⟩ := h_read_expression
  obtain ⟨fd_kind, G_kind, b_kind, M_kind⟩ := h_kind
  obtain ⟨fd_value, G_value, b_value, M_value⟩ := h_value
  obtain ⟨fd_step, G_step, b_step, M_step⟩ := h_step
  obtain ⟨fd_need_name, G_need_name, b_need_name, M_need_name⟩ := h_need_name
  obtain ⟨fd_need_sign, G_need_sign, b_need_sign, M_need_sign⟩ := h_need_sign
  exact (pss_cons (ps_set (i := 1) (sc_read_statement).nd rfl (Or.inl rfl) (pe_ifExp (pt_cmpR op_eq (pe_meth0 (pv 0) T.clR M_kind G_kind hr b_kind .nil pass0) (pe_lit l35) (nomark _)) (pe_meth0 (pv 0) T.clR M_value G_value hr b_value .nil pass0) (pe_lit l8)))
    (pss_cons (ps_if (pt_cmpR op_eq (pv 1) (pe_lit l10) (nomark _)) (pss_one (ps_ret (pe_call G_read_if hr rfl m_read_if k_read_if b_read_if .nil pass0 (pa_cons (pv 0) pa_nil)))) pss_nil)
    (pss_cons (ps_if (pt_cmpR op_eq (pv 1) (pe_lit l14) (nomark _)) (pss_cons (ps_expr (pe_meth0 (pv 0) T.clR M_step G_step hr b_step .nil pass0))
    (pss_cons (ps_set (i := 2) (sc_read_statement).nd rfl (Or.inl rfl) (pe_call G_read_condition hr rfl m_read_condition k_read_condition b_read_condition .nil pass0 (pa_cons (pv 0) pa_nil)))
    (pss_one (ps_ret (pe_tup (pa_cons (pe_lit l14) (pa_cons (pv 2) (pa_cons (pe_call G_read_block hr rfl m_read_block k_read_block b_read_block .nil pass0 (pa_cons (pv 0) pa_nil)) pa_nil)))))))) pss_nil)
    (pss_cons (ps_if (pt_cmpR op_eq (pv 1) (pe_lit l23) (nomark _)) (pss_one (ps_ret (pe_call G_read_call hr rfl m_read_call k_read_call b_read_call .nil pass0 (pa_cons (pv 0) pa_nil)))) pss_nil)
    (pss_cons (ps_if (pt_cmpR op_in_seq (pv 1) (pe_tup (pa_cons (pe_lit l18) (pa_cons (pe_lit l43) (pa_cons (pe_lit l21) (pa_cons (pe_lit l20) (pa_cons (pe_lit l42) pa_nil)))))) rfl) (pss_cons (ps_expr (pe_meth0 (pv 0) T.clR M_step G_step hr b_step .nil pass0))
    (pss_cons (ps_if (pt_cmpR op_eq (pv 1) (pe_lit l18) (nomark _)) (pss_one (ps_set (i := 3) (sc_read_statement).nd rfl (Or.inl rfl) (pe_meth0 (pv 0) T.clR M_need_name G_need_name hr b_need_name .nil pass0))) (pss_one (ps_if (pt_cmpR op_in_seq (pv 1) (pe_tup (pa_cons (pe_lit l21) (pa_cons (pe_lit l20) pa_nil))) rfl) (pss_one (ps_set (i := 3) (sc_read_statement).nd rfl (Or.inl rfl) (pe_call G_read_condition hr rfl m_read_condition k_read_condition b_read_condition .nil pass0 (pa_cons (pv 0) pa_nil)))) (pss_one (ps_set (i := 3) (sc_read_statement).nd rfl (Or.inl rfl) (pe_call G_read_expression hr rfl m_read_expression k_read_expression b_read_expression .nil pass0 (pa_cons (pv 0) pa_nil)))))))
    (pss_cons (ps_expr (pe_meth (pv 0) T.clR M_need_sign G_need_sign hr b_need_sign .nil pass0 (pa_cons (pe_lit l0) pa_nil)))
    (pss_one (ps_ret (pe_tup (pa_cons (pv 1) (pa_cons (pv 3) pa_nil)))))))) pss_nil)
    (pss_cons (ps_set (i := 4) (sc_read_statement).nd rfl (Or.inl rfl) (pe_meth0 (pv 0) T.clR M_need_name G_need_name hr b_need_name .nil pass0))
    (pss_cons (ps_expr (pe_meth (pv 0) T.clR M_need_sign G_need_sign hr b_need_sign .nil pass0 (pa_cons (pe_lit l44) pa_nil)))
    (pss_cons (ps_set (i := 3) (sc_read_statement).nd rfl (Or.inl rfl) (pe_call G_read_expression hr rfl m_read_expression k_read_expression b_read_expression .nil pass0 (pa_cons (pv 0) pa_nil)))
    (pss_cons (ps_expr (pe_meth (pv 0) T.clR M_need_sign G_need_sign hr b_need_sign .nil pass0 (pa_cons (pe_lit l0) pa_nil)))
    (pss_one (ps_ret (pe_tup (pa_cons (pe_lit l16) (pa_cons (pv 4) (pa_cons (pv 3) pa_nil)))))))))))))))
theorem ok_read_statement {P : Program} {w : World} {K : PySem.W.Frag} {mg : Str → Option Value} {base : Heap} {k : Nat} {p_read_if p_read_condition p_read_block p_read_call p_read_expression p_kind p_value p_step p_need_name p_need_sign : Sp} {sp : Sp} (T : GF K mg) (F : ∃ fd, FunD K "read_statement" "read_statement" (defArgs s_read_statement) (defBody s_read_statement) (defScope s_read_statement) [] [] (He.ga K "read_statement") fd) (m : mg "read_statement" = some (.ref (He.ga K "read_statement"))) (h_read_if : Has P w K mg base k "read_if" a_read_if p_read_if) (h_read_condition : Has P w K mg base k "read_condition" a_read_condition p_read_condition) (h_read_block : Has P w K mg base k "read_block" a_read_block p_read_block) (h_read_call : Has P w K mg base k "read_call" a_read_call p_read_call) (h_read_expression : Has P w K mg base k "read_expression" a_read_expression p_read_expression) (h_kind : HasM P w K mg base k "kind" a_Reader_kind p_kind) (h_value : HasM P w K mg base k "value" a_Reader_value p_value) (h_step : HasM P w K mg base k "step" a_Reader_step p_step) (h_need_name : HasM P w K mg base k "need_name" a_Reader_need_name p_need_name) (h_need_sign : HasM P w K mg base k "need_sign" a_Reader_need_sign p_need_sign)
    (len : ∀ vs H Q E, sp vs H Q E → vs.length = (a_read_statement).length) (pure_ : ∀ vs H Q E, sp vs H Q E → t_read_statement K p_read_if p_read_condition p_read_block p_read_call p_read_expression p_kind p_value p_step p_need_name p_need_sign { nx := fun _ H' => Q .non H', rt := Q } (start n_read_statement vs) H) :
    Has P w K mg base (k + 1) "read_statement" a_read_statement sp := by
  obtain ⟨fd, F⟩ := F
  exact ⟨fd, FunD.ok F sc_read_statement len fun cdv A outer s H vs Q E hr h => ⟨t_read_statement K p_read_if p_read_condition p_read_block p_read_call p_read_expression p_kind p_value p_step p_need_name p_need_sign, PSs.nox (de_read_statement T hr h_read_if h_read_condition h_read_block h_read_call h_read_expression h_kind h_value h_step h_need_name h_need_sign), pure_ vs H Q E h⟩, FunD.bindsN F (ps := a_read_statement) (fun _ _ _ _ _ _ us hl => match us, hl with | [_], _ => rfl), F.kp, m⟩
theorem de__law_next {P : Program} {w : World} {K : PySem.W.Frag} {mg : Str → Option Value} {base : Heap} {k : Nat} {f : Addr} {cdv : Value} {A : Around} {outer : List Env} {s : Shared} {H : Hp} {E : XK} (T : GF K mg) (hr : Room k (A.deeper (envOfC "_law_next" (defScope s__law_next) s.heap.objs.size f cdv))) :
    PSs (cxOf CX0 P w K mg base n__law_next "_law_next" (defScope s__law_next) f cdv A outer s H E).nox (defBody s__law_next) (t__law_next K ) := by
  exact (pss_cons (ps_if (pt_cmpR op_gt (pe_ix ix_list (pv 0) pe_int (fun _ _ => rfl)) pe_int (nomark _)) (pss_cons (ps_set (i := 3) (sc__law_next).nd rfl (Or.inl rfl) (pe_op op_modN (pe_callTy call_int1 rfl T.int_ (by decide +kernel) (pa_cons (pe_ix ix_list (pv 0) pe_int (fun _ _ => rfl)) pa_nil)) (pv 2)))
    (pss_cons (ps_asg (pe_op op_fdivN (pe_callTy call_int1 rfl T.int_ (by decide +kernel) (pa_cons (pe_ix ix_list (pv 0) pe_int (fun _ _ => rfl)) pa_nil)) (pv 2)) (pg_sub (pv 0) pe_int set_list))
    (pss_one (ps_ret (pv 3))))) pss_nil)
    (pss_cons (ps_set (i := 4) (sc__law_next).nd rfl (Or.inl rfl) pe_int)
    (pss_cons (ps_if (pt_cmpR op_lt (pe_ix ix_list (pv 0) pe_int (fun _ _ => rfl)) (pe_callB call_len_seq rfl T.len boot_len (pa_cons (pv 1) pa_nil)) (nomark _)) (pss_one (ps_set (i := 4) (sc__law_next).nd rfl (Or.inl rfl) (pe_callB call_abs rfl T.abs_ (by decide +kernel) (pa_cons (pe_callTy call_int1 rfl T.int_ (by decide +kernel) (pa_cons (pe_ix ix_list (pv 1) (pe_ix ix_list (pv 0) pe_int (fun _ _ => rfl)) (fun _ _ => rfl)) pa_nil)) pa_nil)))) pss_nil)
    (pss_cons (ps_asg (pe_op op_add (pe_ix ix_list (pv 0) pe_int (fun _ _ => rfl)) pe_int) (pg_sub (pv 0) pe_int set_list))
    (pss_cons (ps_if (pt_cmpR op_ge (pv 4) (pe_op op_pow pe_int pe_int) (nomark _)) (pss_cons (ps_asg (pe_op op_fdivN (pv 4) (pv 2)) (pg_sub (pv 0) pe_int set_list))
    (pss_one (ps_ret (pe_op op_modN (pe_callTy call_int1 rfl T.int_ (by decide +kernel) (pa_cons (pv 4) pa_nil)) (pv 2))))) pss_nil)
    (pss_cons (ps_asg (pe_op op_modN (pe_callTy call_int1 rfl T.int_ (by decide +kernel) (pa_cons (pe_op op_add (pe_op op_add (pe_op op_mul (pe_ix ix_list (pv 0) pe_int (fun _ _ => rfl)) pe_int) (pe_op op_mul (pv 4) pe_int)) pe_int) pa_nil)) pe_int) (pg_sub (pv 0) pe_int set_list))
    (pss_one (ps_ret (pe_op op_modN (pe_callTy call_int1 rfl T.int_ (by decide +kernel) (pa_cons (pe_op op_add (pe_op op_fdivN (pe_ix ix_list (pv 0) pe_int (fun _ _ => rfl)) pe_int) (pe_op op_fdivN (pe_op op_mul (pe_ix ix_list (pv 0) pe_int (fun _ _ => rfl)) (pe_ix ix_list (pv 0) pe_int (fun _ _ => rfl))) pe_int)) pa_nil)) (pv 2))))))))))
theorem ok__law_next {P : Program} {w : World} {K : PySem.W.Frag} {mg : Str → Option Value} {base : Heap} {k : Nat} {sp : Sp} (T : GF K mg) (F : ∃ fd, FunD K "_law_next" "_law_next" (defArgs s__law_next) (defBody s__law_next) (defScope s__law_next) [] [] (He.ga K "_law_next") fd) (m : mg "_law_next" = some (.ref (He.ga K "_law_next")))
    (len : ∀ vs H Q E, sp vs H Q E → vs.length = (a__law_next).length) (pure_ : ∀ vs H Q E, sp vs H Q E → t__law_next K  { nx := fun _ H' => Q .non H', rt := Q } (start n__law_next vs) H) :
    Has P w K mg base (k + 1) "_law_next" a__law_next sp := by
  obtain ⟨fd, F⟩ := F
  exact ⟨fd, FunD.ok F sc__law_next len fun cdv A outer s H vs Q E hr h => ⟨t__law_next K , PSs.nox (de__law_next T hr), pure_ vs H Q E h⟩, FunD.bindsN F (ps := a__law_next) (fun _ _ _ _ _ _ us hl => match us, hl with | [_, _, _], _ => rfl), F.kp, m⟩
theorem de__law_any_condition {P : Program} {w : World} {K : PySem.W.Frag} {mg : Str → Option Value} {base : Heap} {k : Nat} {f : Addr} {cdv : Value} {A : Around} {outer : List Env} {s : Shared} {H : Hp} {E : XK} {p__law_next p__law_any_condition p__law_any_expression : Sp} (T : GF K mg) (hr : Room k (A.deeper (envOfC "_law_any_condition" (defScope s__law_any_condition) s.heap.objs.size f cdv))) (h__law_next : Has P w K mg base k "_law_next" a__law_next p__law_next) (h__law_any_condition : Has P w K mg base k "_law_any_condition" a__law_any_condition p__law_any_condition) (h__law_any_expression : Has P w K mg base k "_law_any_expression" a__law_any_expression p__law_any_expression) :
    PSs (cxOf CX0 P w K mg base n__law_any_condition "_law_any_condition" (defScope s__law_any_condition) f cdv A outer s H E).nox (defBody s__law_any_condition) (t__law_any_condition K p__law_next p__law_any_condition p__law_any_expression) := by
  obtain ⟨fd__law_next, G__law_next, b__law_next, k__law_next, m__law_next⟩ := h__law_next
  obtain ⟨fd__law_any_condition, G__law_any_condition, b__law_any_condition, k__law_any_condition, m__law_any_condition⟩ := h__law_any_condition
  obtain ⟨fd__law_any_expression, G__law_any_expression, b__law_any_expression, k__law_any_expression, m__law_any_expression⟩ := h__law_any_expression
  exact (pss_cons (ps_set (i := 3) (sc__law_any_condition).nd rfl (Or.inl rfl) (pe_call G__law_next hr rfl m__law_next k__law_next b__law_next .nil pass0 (pa_cons (pv 0) (pa_cons (pv 1) (pa_cons pe_int pa_nil)))))
    (pss_cons (ps_if (PW.pt (pw_and (pt_cmpR op_gt (pv 2) pe_int (nomark _)) (pw_and1 (pt_cmpR op_eq (pv 3) pe_int (nomark _))))) (pss_one (ps_ret (pe_tup (pa_cons (pe_lit l29) (pa_cons (pe_call G__law_any_condition hr rfl m__law_any_condition k__law_any_condition b__law_any_condition .nil pass0 (pa_cons (pv 0) (pa_cons (pv 1) (pa_cons (pe_op op_sub (pv 2) pe_int) pa_nil)))) pa_nil))))) pss_nil)
    (pss_cons (ps_if (PW.pt (pw_and (pt_cmpR op_gt (pv 2) pe_int (nomark _)) (pw_and1 (pt_cmpR op_lt (pv 3) pe_int (nomark _))))) (pss_cons (ps_set (i := 4) (sc__law_any_condition).nd rfl (Or.inl rfl) (pe_call G__law_any_condition hr rfl m__law_any_condition k__law_any_condition b__law_any_condition .nil pass0 (pa_cons (pv 0) (pa_cons (pv 1) (pa_cons (pe_op op_sub (pv 2) pe_int) pa_nil)))))
    (pss_one (ps_ret (pe_tup (pa_cons (pe_ix ix_list (pe_lst (pa_cons (pe_lit l50) (pa_cons (pe_lit l51) pa_nil))) (pe_op op_sub (pv 3) pe_int) (fun _ _ => rfl)) (pa_cons (pv 4) (pa_cons (pe_call G__law_any_condition hr rfl m__law_any_condition k__law_any_condition b__law_any_condition .nil pass0 (pa_cons (pv 0) (pa_cons (pv 1) (pa_cons (pe_op op_sub (pv 2) pe_int) pa_nil)))) pa_nil))))))) pss_nil)
    (pss_cons (ps_set (i := 4) (sc__law_any_condition).nd rfl (Or.inl rfl) (pe_call G__law_any_expression hr rfl m__law_any_expression k__law_any_expression b__law_any_expression .nil pass0 (pa_cons (pv 0) (pa_cons (pv 1) (pa_cons pe_int pa_nil)))))
    (pss_one (ps_ret (pe_tup (pa_cons (pe_lit l31) (pa_cons (pe_ix ix_list (pe_lst (pa_cons (pe_lit l61) (pa_cons (pe_lit l60) (pa_cons (pe_lit l59) (pa_cons (pe_lit l58) pa_nil))))) (pe_call G__law_next hr rfl m__law_next k__law_next b__law_next .nil pass0 (pa_cons (pv 0) (pa_cons (pv 1) (pa_cons pe_int pa_nil)))) (fun _ _ => rfl)) (pa_cons (pv 4) (pa_cons (pe_call G__law_any_expression hr rfl m__law_any_expression k__law_any_expression b__law_any_expression .nil pass0 (pa_cons (pv 0) (pa_cons (pv 1) (pa_cons pe_int pa_nil)))) pa_nil)))))))))))
theorem ok__law_any_condition {P : Program} {w : World} {K : PySem.W.Frag} {mg : Str → Option Value} {base : Heap} {k : Nat} {p__law_next p__law_any_condition p__law_any_expression : Sp} {sp : Sp} (T : GF K mg) (F : ∃ fd, FunD K "_law_any_condition" "_law_any_condition" (defArgs s__law_any_condition) (defBody s__law_any_condition) (defScope s__law_any_condition) [] [] (He.ga K "_law_any_condition") fd) (m : mg "_law_any_condition" = some (.ref (He.ga K "_law_any_condition"))) (h__law_next : Has P w K mg base k "_law_next" a__law_next p__law_next) (h__law_any_condition : Has P w K mg base k "_law_any_condition" a__law_any_condition p__law_any_condition) (h__law_any_expression : Has P w K mg base k "_law_any_expression" a__law_any_expression p__law_any_expression)
    (len : ∀ vs H Q E, sp vs H Q E → vs.length = (a__law_any_condition).length) (pure_ : ∀ vs H Q E, sp vs H Q E → t__law_any_condition K p__law_next p__law_any_condition p__law_any_expression { nx := fun _ H' => Q .non H', rt := Q } (start n__law_any_condition vs) H) :
    Has P w K mg base (k + 1) "_law_any_condition" a__law_any_condition sp := by
  obtain ⟨fd, F⟩ := F
  exact ⟨fd, FunD.ok F sc__law_any_condition len fun cdv A outer s H vs Q E hr h => ⟨t__law_any_condition K p__law_next p__law_any_condition p__law_any_expression, PSs.nox (de__law_any_condition T hr h__law_next h__law_any_condition h__law_any_expression), pure_ vs H Q E h⟩, FunD.bindsN F (ps := a__law_any_condition) (fun _ _ _ _ _ _ us hl => match us, hl with | [_, _, _], _ => rfl), F.kp, m⟩
theorem de__law_expression_words {P : Program} {w : World} {K : PySem.W.Frag} {mg : Str → Option Value} {base : Heap} {k : Nat} {f : Addr} {cdv : Value} {A : Around} {outer : List Env} {s : Shared} {H : Hp} {E : XK} {p__law_expression_words : Sp} (T : GF K mg) (hr : Room k (A.deeper (envOfC "_law_expression_words" (defScope s__law_expression_words) s.heap.objs.size f cdv))) (h__law_expression_words : Has P w K mg base k "_law_expression_words" a__law_expression_words p__law_expression_words) :
    PSs (cxOf CX0 P w K mg base n__law_expression_words "_law_expression_words" (defScope s__law_expression_words) f cdv A outer s H E).nox (defBody s__law_expression_words) (t__law_expression_words K p__law_expression_words) := by
  obtain ⟨fd__law_expression_words, G__law_expression_words, b__law_expression_words, k__law_expression_words, m__law_expression_words⟩ := h__law_expression_words
  exact (pss_cons (ps_if (pt_cmpR op_eq (pe_ix ix_tup (pv 0) pe_int (fun _ _ => rfl)) (pe_lit l27) (nomark _)) (pss_cons (ps_if (pt_cmpR op_lt (pe_ix ix_tup (pv 0) pe_int (fun _ _ => rfl)) pe_int (nomark _)) (pss_one (ps_ret (pe_lst (pa_cons (pe_lit l49) (pa_cons (pe_callTy call_str_int rfl T.str_ (by decide +kernel) (pa_cons (pe_op op_sub pe_int (pe_ix ix_tup (pv 0) pe_int (fun _ _ => rfl))) pa_nil)) pa_nil))))) pss_nil)
    (pss_one (ps_ret (pe_lst (pa_cons (pe_callTy call_str_int rfl T.str_ (by decide +kernel) (pa_cons (pe_ix ix_tup (pv 0) pe_int (fun _ _ => rfl)) pa_nil)) pa_nil))))) pss_nil)
    (pss_cons (ps_if (pt_cmpR op_eq (pe_ix ix_tup (pv 0) pe_int (fun _ _ => rfl)) (pe_lit l28) (nomark _)) (pss_one (ps_ret (pe_lst (pa_cons (pe_ix ix_tup (pv 0) pe_int (fun _ _ => rfl)) pa_nil)))) pss_nil)
    (pss_one (ps_ret (pe_op op_cat (pe_op op_cat (pe_op op_cat (pe_op op_cat (pe_lst (pa_cons (pe_lit l3) pa_nil)) (pe_call G__law_expression_words hr rfl m__law_expression_words k__law_expression_words b__law_expression_words .nil pass0 (pa_cons (pe_ix ix_tup (pv 0) pe_int (fun _ _ => rfl)) pa_nil))) (pe_lst (pa_cons (pe_ix ix_tup (pv 0) pe_int (fun _ _ => rfl)) pa_nil))) (pe_call G__law_expression_words hr rfl m__law_expression_words k__law_expression_words b__law_expression_words .nil pass0 (pa_cons (pe_ix ix_tup (pv 0) pe_int (fun _ _ => rfl)) pa_nil))) (pe_lst (pa_cons (pe_lit l26) pa_nil)))))))
theorem ok__law_expression_words {P : Program} {w : World} {K : PySem.W.Frag} {mg : Str → Option Value} {base : Heap} {k : Nat} {p__law_expression_words : Sp} {sp : Sp} (T : GF K mg) (F : ∃ fd, FunD K "_law_expression_words" "_law_expression_words" (defArgs s__law_expression_words) (defBody s__law_expression_words) (defScope s__law_expression_words) [] [] (He.ga K "_law_expression_words") fd) (m : mg "_law_expression_words" = some (.ref (He.ga K "_law_expression_words"))) (h__law_expression_words : Has P w K mg base k "_law_expression_words" a__law_expression_words p__law_expression_words)
    (len : ∀ vs H Q E, sp vs H Q E → vs.length = (a__law_expression_words).length) (pure_ : ∀ vs H Q E, sp vs H Q E → t__law_expression_words K p__law_expression_words { nx := fun _ H' => Q .non H', rt := Q } (start n__law_expression_words vs) H) :
    Has P w K mg base (k + 1) "_law_expression_words" a__law_expression_words sp := by
  obtain ⟨fd, F⟩ := F
  exact ⟨fd, FunD.ok F sc__law_expression_words len fun cdv A outer s H vs Q E hr h => ⟨t__law_expression_words K p__law_expression_words, PSs.nox (de__law_expression_words T hr h__law_expression_words), pure_ vs H Q E h⟩, FunD.bindsN F (ps := a__law_expression_words) (fun _ _ _ _ _ _ us hl => match us, hl with | [_], _ => rfl), F.kp, m⟩
theorem de__law_sign {P : Program} {w : World} {K : PySem.W.Frag} {mg : Str → Option Value} {base : Heap} {k : Nat} {f : Addr} {cdv : Value} {A : Around} {outer : List Env} {s : Shared} {H : Hp} {E : XK} {p__law_reserved : Sp} (T : GF K mg) (hr : Room k (A.deeper (envOfC "_law_sign" (defScope s__law_sign) s.heap.objs.size f cdv))) (h__law_reserved : Has P w K mg base k "_law_reserved" a__law_reserved p__law_reserved) :
    PSs (cxOf CX0 P w K mg base n__law_sign "_law_sign" (defScope s__law_sign) f cdv A outer s H E).nox (defBody s__law_sign) (t__law_sign K p__law_reserved) := by
  obtain ⟨fd__law_reserved, G__law_reserved, b__law_reserved, k__law_reserved, m__law_reserved⟩ := h__law_reserved
  exact (pss_cons (ps_if (pt_cmpR op_eq (pv 0) (pe_lit l26) (nomark _)) (pss_one (ps_ret pe_bl)) pss_nil)
    (pss_one (ps_ret (pe_or (pe_cmpR op_notIn_str (pe_slice sl_str (pv 0) po_none (po_some pe_int)) (pe_lit l62) rfl) (pe_or (pe_cmpR op_in_seq (pv 0) (pe_call0 G__law_reserved hr rfl m__law_reserved k__law_reserved b__law_reserved .nil pass0) rfl) (pe_one (pe_cmpR op_eq (pv 0) (pe_lit l8) (nomark _))))))))
theorem ok__law_sign {P : Program} {w : World} {K : PySem.W.Frag} {mg : Str → Option Value} {base : Heap} {k : Nat} {p__law_reserved : Sp} {sp : Sp} (T : GF K mg) (F : ∃ fd, FunD K "_law_sign" "_law_sign" (defArgs s__law_sign) (defBody s__law_sign) (defScope s__law_sign) [] [] (He.ga K "_law_sign") fd) (m : mg "_law_sign" = some (.ref (He.ga K "_law_sign"))) (h__law_reserved : Has P w K mg base k "_law_reserved" a__law_reserved p__law_reserved)
    (len : ∀ vs H Q E, sp vs H Q E → vs.length = (a__law_sign).length) (pure_ : ∀ vs H Q E, sp vs H Q E → t__law_sign K p__law_reserved { nx := fun _ H' => Q .non H', rt := Q } (start n__law_sign vs) H) :
    Has P w K mg base (k + 1) "_law_sign" a__law_sign sp := by
  obtain ⟨fd, F⟩ := F
  exact ⟨fd, FunD.ok F sc__law_sign len fun cdv A outer s H vs Q E hr h => ⟨t__law_sign K p__law_reserved, PSs.nox (de__law_sign T hr h__law_reserved), pure_ vs H Q E h⟩, FunD.bindsN F (ps := a__law_sign) (fun _ _ _ _ _ _ us hl => match us, hl with | [_], _ => rfl), F.kp, m⟩
end Cc
end
section
namespace Cc
open PySem PySem.Spec PyProof.Rows L2
/-! ### the heap goes on: all that stood stands; all but what stands at r -/
theorem same_sqt {K : PySem.W.Frag} {H H' : Hp} {a : Addr} {xs : List V} (e : Same H H') (h : SqT K H a xs) : SqT K H' a xs := by
  rcases h with (h | ⟨o, h⟩) | h
  · exact .inl (.inl (e _ _ h))
  · exact .inl (.inr ⟨o, e _ _ h⟩)
  · exact .inr h
theorem same_upd {H : Hp} {p : Addr} (h : H p = none) (o : HO) : Same H (upd H p o) := fun b u q => by rw [upd_ne (ne_of_none q h)]; exact q
def Fx (r : Addr) (H H' : Hp) : Prop := ∀ b o, b ≠ r → H b = some o → H' b = some o
theorem Fx.refl {r : Addr} (H : Hp) : Fx r H H := fun _ _ _ h => h
theorem Fx.trans {r : Addr} {H H1 H2 : Hp} (a : Fx r H H1) (b : Fx r H1 H2) : Fx r H H2 := fun c o n h => b c o n (a c o n h)
theorem same_fx {r : Addr} {H H1 : Hp} (a : Same H H1) : Fx r H H1 := fun c o _ h => a c o h
/-- no tuple stands at r -/
def NoTup (H : Hp) (r : Addr) : Prop := ∀ xs, ¬ Rd H r (.tup xs)
theorem noTup_lst {H : Hp} {r : Addr} {xs : List V} (h : H r = some (.lst xs)) : NoTup H r := fun ys z => by
  rcases z with z | ⟨o, z⟩ <;> (rw [h] at z; cases z)
theorem noTup_ins {H : Hp} {r C dx : Addr} {fs : List (Str × V)} (h : H r = some (.ins C dx fs)) : NoTup H r := fun ys z => by
  rcases z with z | ⟨o, z⟩ <;> (rw [h] at z; cases z)
theorem Fx.sqt {K : PySem.W.Frag} {r : Addr} {H H' : Hp} {a : Addr} {xs : List V} (e : Fx r H H') (n : NoTup H r) (h : SqT K H a xs) : SqT K H' a xs := by
  by_cases ha : a = r
  · subst ha
    rcases h with h | h
    · exact absurd h (n _)
    · exact .inr h
  · rcases h with (h | ⟨o, h⟩) | h
    · exact .inl (.inl (e _ _ ha h))
    · exact .inl (.inr ⟨o, e _ _ ha h⟩)
    · exact .inr h
/-! ### data that lies in tuples alone stays -/
def plainD : PyData → Bool
  | .tuple xs => plainDs xs
  | .list _ => false
  | .dict _ => false
  | _ => true
where plainDs : List PyData → Bool
  | [] => true
  | x :: r => plainD x && plainDs r
mutual
theorem dp_keep {K : PySem.W.Frag} {H H' : Hp} (e : ∀ a xs, SqT K H a xs → SqT K H' a xs) : ∀ (d : PyData) (v : V), plainD d = true → Dp K H v d → Dp K H' v d
  | .none, _, _, h => by cases h; exact .non
  | .bool _, _, _, h => by cases h; exact .bl _
  | .int _, _, _, h => by cases h; exact .int _
  | .str _, _, _, h => by cases h; exact .str _
  | .list _, _, hp, _ => by cases hp
  | .dict _, _, hp, _ => by cases hp
  | .tuple ds, _, hp, h => by
    cases h with
    | tup h1 h2 => exact .tup (e _ _ h1) (dp_keepAll e ds _ hp h2)
theorem dp_keepAll {K : PySem.W.Frag} {H H' : Hp} (e : ∀ a xs, SqT K H a xs → SqT K H' a xs) : ∀ (ds : List PyData) (vs : List V), plainD.plainDs ds = true → DpAll K H vs ds → DpAll K H' vs ds
  | [], _, _, h => by cases h; exact .nil
  | d :: r, _, hp, h => by
    obtain ⟨p1, p2⟩ := Bool.and_eq_true_iff.mp (show (plainD d && plainD.plainDs r) = true from hp)
    cases h with
    | cons h1 h2 => exact .cons (dp_keep e d _ p1 h1) (dp_keepAll e r _ p2 h2)
end
/-! ### one step of a reading -/
section
variable {K : PySem.W.Frag} {σ : L2.St} {H : Hp} {Q : VK} {D : Ends} {ta tb te : TE} {tt tu : TT} {tr : TA} {t u z : TS} {v x y : V} {i : Nat} {r : R2}
theorem w_var (h : σ[i]? = some (some v)) (q : Q v H) : tVar i σ H Q := ⟨v, h, q⟩
theorem w_c (q : Q v H) : tC v σ H Q := q
theorem w_op (h : ta σ H fun x H1 => tb σ H1 fun y H2 => r x y H2 Q) : tOp r ta tb σ H Q := h
theorem w_un {r : V → Hp → VK → Prop} (h : ta σ H fun x H1 => r x H1 Q) : tUn r ta σ H Q := h
theorem w_nil {Q : List V → Hp → Prop} (q : Q [] H) : tNil σ H Q := q
theorem w_cons {Q : List V → Hp → Prop} (h : te σ H fun x H1 => tr σ H1 fun xs H2 => Q (x :: xs) H2) : tCons te tr σ H Q := h
theorem w_test {Q : Bool → Hp → Prop} (h : te σ H fun x H1 => ∃ k, x = .bl k ∧ Q k H1) : tTest te σ H Q := h
theorem w_B {Q : Bool → Hp → Prop} (h : te σ H fun x H1 => ∃ k, x = .bl k ∧ Q k H1) : tB te σ H Q := h
theorem w_bl {b : Bool} {Q : Bool → Hp → Prop} (q : Q b H) : ∃ k, V.bl b = .bl k ∧ Q k H := ⟨b, rfl, q⟩
theorem w_bl2 {b : Bool} {P : Bool → Prop} (q : P b) : ∃ k, V.bl b = .bl k ∧ P k := ⟨b, rfl, q⟩
theorem w_not {Q : Bool → Hp → Prop} (h : tt σ H fun c H1 => Q (!c) H1) : tNot tt σ H Q := h
theorem w_and {Q : Bool → Hp → Prop} (h : tt σ H fun c H1 => if c = true then tu σ H1 Q else Q false H1) : tAnd tt tu σ H Q := h
theorem w_or {Q : Bool → Hp → Prop} (h : tt σ H fun c H1 => if c = true then Q true H1 else tu σ H1 Q) : tOr tt tu σ H Q := h
theorem w_andV (h : ta σ H fun x H1 => ∃ c, x = .bl c ∧ if c = true then tb σ H1 Q else Q (.bl false) H1) : tAndV ta tb σ H Q := h
theorem w_orV (h : ta σ H fun x H1 => ∃ c, x = .bl c ∧ if c = true then Q (.bl true) H1 else tb σ H1 Q) : tOrV ta tb σ H Q := h
theorem w_notV (h : ta σ H fun x H1 => ∃ c, x = .bl c ∧ Q (.bl (!c)) H1) : tNotV ta σ H Q := h
theorem w_if (h : tt σ H fun c H1 => if c = true then ta σ H1 Q else tb σ H1 Q) : tIf tt ta tb σ H Q := h
theorem w_yes {Q : Bool → Hp → Prop} (q : Q true H) : tYes σ H Q := q
theorem w_t {c : Bool} {A B : Prop} (h : c = true) (q : A) : if c = true then A else B := by rw [if_pos h]; exact q
theorem w_f {c : Bool} {A B : Prop} (h : c = false) (q : B) : if c = true then A else B := by rw [h]; exact iteF q
theorem w_tf {c : Bool} {A B : Prop} (h1 : c = true → A) (h2 : c = false → B) : if c = true then A else B := by
  cases c with
  | true => exact iteT (h1 rfl)
  | false => exact iteF (h2 rfl)
theorem w_dec {p : Prop} [Decidable p] {A B : Prop} (h1 : p → A) (h2 : ¬ p → B) : if decide p = true then A else B := w_tf (fun e => h1 (of_decide_eq_true e)) (fun e => h2 (of_decide_eq_false e))
/-- statements -/
theorem s_set (h : te σ H fun x H1 => u D (σ.set i (some x)) H1) : tSeq (tAsg te (gName i)) u D σ H := h
theorem s_setl (h : te σ H fun x H1 => D.nx (σ.set i (some x)) H1) : tAsg te (gName i) D σ H := h
theorem s_asg {g : TG} (h : te σ H fun x H1 => g x σ H1 (u D)) : tSeq (tAsg te g) u D σ H := h
theorem s_asgl {g : TG} (h : te σ H fun x H1 => g x σ H1 D.nx) : tAsg te g D σ H := h
theorem s_drop (h : te σ H fun _ H1 => u D σ H1) : tSeq (tDrop te) u D σ H := h
theorem s_dropl (h : te σ H fun _ H1 => D.nx σ H1) : tDrop te D σ H := h
theorem s_ret (h : te σ H D.rt) : tRet te D σ H := h
theorem s_if (h : tt σ H fun b H1 => if b = true then t { D with nx := z D } σ H1 else u { D with nx := z D } σ H1) : tSeq (tIfS tt t u) z D σ H := h
theorem s_when (h : tt σ H fun b H1 => if b = true then t { D with nx := z D } σ H1 else z D σ H1) : tSeq (tIfS tt t tNext) z D σ H := h
theorem s_ifl (h : tt σ H fun b H1 => if b = true then t D σ H1 else u D σ H1) : tIfS tt t u D σ H := h
theorem s_whenl (h : tt σ H fun b H1 => if b = true then t D σ H1 else D.nx σ H1) : tIfS tt t tNext D σ H := h
theorem s_fld {tv : TE} {f : Str} (h : tv σ H fun y H1 => ta σ H1 fun x H2 => ∃ a C dx fs, x = .ref a ∧ H2 a = some (.ins C dx fs) ∧ Cls K C ∧ NoAttr K C f ∧ fs.length < 1000 ∧ u D σ (upd H2 a (.ins C dx (putF f y fs)))) : tSeq (sFld K ta tv f) u D σ H := h
theorem s_fldl {tv : TE} {f : Str} (h : tv σ H fun y H1 => ta σ H1 fun x H2 => ∃ a C dx fs, x = .ref a ∧ H2 a = some (.ins C dx fs) ∧ Cls K C ∧ NoAttr K C f ∧ fs.length < 1000 ∧ D.nx σ (upd H2 a (.ins C dx (putF f y fs)))) : sFld K ta tv f D σ H := h
/-- calls -/
theorem w_call {sp : Sp} {E : XK} (h : tr σ H fun vs H1 => sp vs H1 Q E) : tCall sp [] E tr σ H Q := by
  have e : (fun (vs : List V) (H1 : Hp) => sp (vs ++ []) H1 Q E) = fun vs H1 => sp vs H1 Q E := by
    funext vs H1
    rw [List.append_nil]
  show tr σ H fun vs H1 => sp (vs ++ []) H1 Q E
  rw [e]
  exact h
theorem w_meth {C : Addr} {m : Str} {sp : Sp} {E : XK} (h : ta σ H fun x H1 => ∃ a dx fs, x = .ref a ∧ H1 a = some (.ins C dx fs) ∧ fs.lookup m = none ∧ tr σ H1 fun vs H2 => sp (x :: vs) H2 Q E) : tMeth C m sp [] E ta tr σ H Q := by
  have e : (fun (x : V) (H1 : Hp) => ∃ a dx fs, x = .ref a ∧ H1 a = some (.ins C dx fs) ∧ fs.lookup m = none ∧ tr σ H1 fun vs H2 => sp (x :: (vs ++ [])) H2 Q E) =
      fun x H1 => ∃ a dx fs, x = .ref a ∧ H1 a = some (.ins C dx fs) ∧ fs.lookup m = none ∧ tr σ H1 fun vs H2 => sp (x :: vs) H2 Q E := by
    funext x H1
    have e2 : (fun (vs : List V) (H2 : Hp) => sp (x :: (vs ++ [])) H2 Q E) = fun vs H2 => sp (x :: vs) H2 Q E := by
      funext vs H2
      rw [List.append_nil]
    rw [e2]
  show ta σ H fun x H1 => ∃ a dx fs, x = .ref a ∧ H1 a = some (.ins C dx fs) ∧ fs.lookup m = none ∧ tr σ H1 fun vs H2 => sp (x :: (vs ++ [])) H2 Q E
  rw [e]
  exact h
theorem w_callB {r : List V → Hp → VK → Prop} (h : tr σ H fun vs H1 => r vs H1 Q) : tCB r tr σ H Q := h
theorem w_m1 {r : V → List V → Hp → VK → Prop} (h : ta σ H fun x H1 => (∃ a, x = .str a) ∧ te σ H1 fun y H2 => r x [y] H2 Q) : tM1 r ta te σ H Q := h
theorem w_m1' {x : Str} {A : Prop} (q : A) : (∃ a, V.str x = .str a) ∧ A := ⟨⟨x, rfl⟩, q⟩
/-- a new tuple, a new list -/
def NewT (xs : List V) (H : Hp) (Q : VK) : Prop := xs.length ≤ sizeLine ∧ ∀ p, H p = none → Q (.ref p) (upd H p (.tup xs))
def NewL (xs : List V) (H : Hp) (Q : VK) : Prop := xs.length ≤ sizeLine ∧ ∀ p, H p = none → Q (.ref p) (upd H p (.lst xs))
theorem w_tup (h : tr σ H fun xs H1 => NewT xs H1 Q) : tTup tr σ H Q := h
theorem w_lst (h : tr σ H fun xs H1 => NewL xs H1 Q) : tLst tr σ H Q := h
theorem w_newT {xs : List V} (n : xs.length ≤ 1000) (q : ∀ p H', H p = none → Same H H' → H' p = some (.tup xs) → Q (.ref p) H') : NewT xs H Q :=
  ⟨Nat.le_trans n (by decide), fun p hp => q p _ hp (same_upd hp _) upd_same⟩
theorem w_newL {xs : List V} (n : xs.length ≤ 1000) (q : ∀ p H', H p = none → Same H H' → H' p = some (.lst xs) → Q (.ref p) H') : NewL xs H Q :=
  ⟨Nat.le_trans n (by decide), fun p hp => q p _ hp (same_upd hp _) upd_same⟩
/-- operations -/
theorem w_eqS {a b : Tx} (q : Q (.bl (decide (a = b))) H) : rEq (.str (mk a)) (.str (mk b)) H Q := by
  have e : decide (V.str (mk a) = V.str (mk b)) = decide (a = b) := by
    by_cases h : a = b
    · subst h
      rw [decide_eq_true rfl, decide_eq_true rfl]
    · rw [decide_eq_false h, decide_eq_false (fun z => h (mk_inj (V.str.inj z)))]
  exact ⟨rfl, by rw [e]; exact q⟩
theorem w_neS {a b : Tx} (q : Q (.bl (!decide (a = b))) H) : rNe (.str (mk a)) (.str (mk b)) H Q := by
  have e : decide (V.str (mk a) = V.str (mk b)) = decide (a = b) := by
    by_cases h : a = b
    · subst h
      rw [decide_eq_true rfl, decide_eq_true rfl]
    · rw [decide_eq_false h, decide_eq_false (fun z => h (mk_inj (V.str.inj z)))]
  exact ⟨rfl, by rw [e]; exact q⟩
theorem w_eqI {a b : Int} (q : Q (.bl (decide (a = b))) H) : rEq (.int a) (.int b) H Q := by
  have e : decide (V.int a = V.int b) = decide (a = b) := by
    by_cases h : a = b
    · subst h
      rw [decide_eq_true rfl, decide_eq_true rfl]
    · rw [decide_eq_false h, decide_eq_false (fun z => h (V.int.inj z))]
  exact ⟨rfl, by rw [e]; exact q⟩
theorem w_addS {a b : Tx} (n : a.length + b.length ≤ 16777216) (q : Q (.str (mk (a ++ b))) H) : rAddS (.str (mk a)) (.str (mk b)) H Q :=
  ⟨mk a, mk b, rfl, rfl, by rw [mk_len, mk_len]; exact n, by rw [mk_app]; exact q⟩
theorem w_I0 {g : Int → Int → V} {a b : Int} (q : Q (g a b) H) : rI0 g (.int a) (.int b) H Q := ⟨a, b, rfl, rfl, q⟩
theorem w_I {C : Int → Int → Prop} {g : Int → Int → V} {a b : Int} (c : C a b) (q : Q (g a b) H) : rI C g (.int a) (.int b) H Q := ⟨a, b, rfl, rfl, c, q⟩
theorem w_neg {a : Int} (q : Q (.int (-a)) H) : rU (fun i => V.int (-i)) (.int a) H Q := ⟨a, rfl, q⟩
theorem w_isNone (q : Q (.bl (decide (x = .non))) H) : rIsNone x .non H Q := ⟨rfl, q⟩
theorem w_ixT {p : Addr} {xs : List V} {j : Int} (h : SqT K H p xs) (e : atI xs j = some v) (q : Q v H) : rIxT K (.ref p) (.int j) H Q := ⟨p, xs, j, v, rfl, rfl, h, e, q⟩
theorem w_ixL {p : Addr} {xs : List V} {j : Int} (h : SqL K H p xs) (e : atI xs j = some v) (q : Q v H) : rIxL K (.ref p) (.int j) H Q := ⟨p, xs, j, v, rfl, rfl, h, e, q⟩
theorem w_ixS {z : Tx} {j : Int} {c : Nat} (n : z.length ≤ 16777216) (e : atI z j = some c) (q : Q (.str (mk [c])) H) : rIxS (.str (mk z)) (.int j) H Q := ⟨mk z, j, c, rfl, rfl, by rw [mk_len]; exact n, by rw [mk_cps]; exact e, q⟩
theorem w_in {neg : Bool} {p : Addr} {xs : List V} (h : SqL K H p xs ∨ SqT K H p xs) (hx : flatV x = true) (hs : xs.all flatV = true) (q : Q (.bl (if neg then !inV x xs else inV x xs)) H) : rIn K neg x (.ref p) H Q := ⟨p, xs, rfl, h, hx, hs, q⟩
theorem w_inSign {c : Nat} {z : Tx} (q : Q (.bl (decide (c ∈ z))) H) : rInSign (.str (mk [c])) (.str (mk z)) H Q := ⟨c, mk z, rfl, rfl, by rw [mk_cps]; exact q⟩
theorem w_lenS {z : Tx} (n : z.length ≤ 16777216) (q : Q (.int (z.length : Int)) H) : cLenS [.str (mk z)] H Q := ⟨mk z, rfl, by rw [mk_len]; exact n, by rw [mk_len]; exact q⟩
theorem w_lenT {p : Addr} {xs : List V} (h : SqT K H p xs) (q : Q (.int (xs.length : Int)) H) : cLen K [.ref p] H Q := ⟨p, xs, rfl, .inr h, q⟩
theorem w_lenL {p : Addr} {xs : List V} (h : SqL K H p xs) (q : Q (.int (xs.length : Int)) H) : cLen K [.ref p] H Q := ⟨p, xs, rfl, .inl h, q⟩
theorem w_tupL {p : Addr} {xs : List V} (h : SqL K H p xs) (q : ∀ l H', H l = none → Same H H' → H' l = some (.tup xs) → Q (.ref l) H') : cTup K [.ref p] H Q := ⟨p, xs, rfl, .inl ⟨h, fun l hl => q l _ hl (same_upd hl _) upd_same⟩⟩
theorem w_int1 {a : Int} (q : Q (.int a) H) : cInt1 [.int a] H Q := .inl ⟨a, rfl, q⟩
theorem w_abs {a : Int} (q : Q (.int (if a < 0 then -a else a)) H) : cAbs [.int a] H Q := ⟨a, rfl, q⟩
end
end Cc
end
section
namespace Cc
open PySem PySem.Spec PyProof.Rows L2
theorem ofStr (s : String) : Str.ofString s = mk (s.toList.map Char.toNat) := by
  rw [Str.ofString_eq_toList]; rfl
theorem repr_list (n : Nat) : (Nat.repr n).toList = Nat.toDigits 10 n := by
  unfold Nat.repr
  simp
theorem str_dec (i : Int) : Str.ofString (toString i) = mk (decI i) := by
  rw [ofStr]
  congr 1
  unfold decI dec
  cases i with
  | ofNat m =>
    have h : ¬ (Int.ofNat m < 0) := by simp
    rw [if_neg h]
    show (Nat.repr m).toList.map Char.toNat = _
    rw [repr_list]
    rfl
  | negSucc m =>
    have h : (Int.negSucc m < 0) := by simp
    rw [if_pos h]
    show ("-" ++ Nat.repr (m + 1)).toList.map Char.toNat = _
    rw [String.toList_append, repr_list]
    simp
theorem w_strI {H : Hp} {Q : VK} {i : Int} (h : -100000 ≤ i ∧ i ≤ 100000) (q : Q (.str (mk (decI i))) H) : cStrI [.int i] H Q := by
  refine ⟨i, rfl, ?_, ?_⟩
  · by_cases h0 : i.natAbs = 0
    · rw [h0]; decide
    · refine (Nat.log2_lt h0).mpr (Nat.lt_of_lt_of_le (m := 2 ^ 20) (by omega) (Nat.pow_le_pow_right (by decide) (by decide)))
  · rw [← str_dec] at q
    exact q
/-! ### data of the law's kind is plain -/
theorem ex_plain : ∀ e : Ex, plainD e.da = true
  | .num _ => rfl
  | .name _ => rfl
  | .op _ l r => by
    show (true && (true && (plainD l.da && (plainD r.da && true)))) = true
    rw [ex_plain l, ex_plain r] <;> rfl
theorem co_plain : ∀ c : Co, plainD c.da = true
  | .cmp _ a b => by
    show (true && (true && (plainD a.da && (plainD b.da && true)))) = true
    rw [ex_plain a, ex_plain b] <;> rfl
  | .not c => by
    show (true && (plainD c.da && true)) = true
    rw [co_plain c] <;> rfl
  | .bin _ a b => by
    show (true && (plainD a.da && (plainD b.da && true))) = true
    rw [co_plain a, co_plain b] <;> rfl
theorem exs_plain : ∀ es : List Ex, plainD.plainDs (es.map Ex.da) = true
  | [] => rfl
  | e :: r => by
    show (plainD e.da && plainD.plainDs (r.map Ex.da)) = true
    rw [ex_plain e, exs_plain r] <;> rfl
mutual
theorem sm_plain : ∀ s : Sm, plainD s.da = true
  | .set x e => by
    show (true && (true && (plainD e.da && true))) = true
    rw [ex_plain e] <;> rfl
  | .ask x => rfl
  | .tell k e => by
    show (true && (plainD e.da && true)) = true
    rw [ex_plain e] <;> rfl
  | .chk k c => by
    show (true && (plainD c.da && true)) = true
    rw [co_plain c] <;> rfl
  | .call f es t => by
    show (true && (true && (plainD.plainDs (es.map Ex.da) && (plainD (optDa t) && true)))) = true
    rw [exs_plain es]
    cases t <;> rfl
  | .ite c a b => by
    show (true && (plainD c.da && (plainD.plainDs (Sm.das a) && (plainD.plainDs (Sm.das b) && true)))) = true
    rw [co_plain c, das_plain a, das_plain b] <;> rfl
  | .whil c a => by
    show (true && (plainD c.da && (plainD.plainDs (Sm.das a) && true))) = true
    rw [co_plain c, das_plain a] <;> rfl
theorem das_plain : ∀ b : List Sm, plainD.plainDs (Sm.das b) = true
  | [] => rfl
  | s :: r => by
    show (plainD s.da && plainD.plainDs (Sm.das r)) = true
    rw [sm_plain s, das_plain r] <;> rfl
end
theorem sms_plain (b : List Sm) : plainD (.tuple (Sm.das b)) = true := das_plain b
theorem names_plain : ∀ l : List Tx, plainD.plainDs (l.map S) = true
  | [] => rfl
  | x :: r => by
    show (true && plainD.plainDs (r.map S)) = true
    rw [names_plain r] <;> rfl
theorem pr_plain (p : Pr) : plainD p.da = true := by
  show (true && (plainD.plainDs (p.ps.map S) && (plainD.plainDs (Sm.das p.body) && true))) = true
  rw [names_plain, das_plain] <;> rfl
theorem prs_plain : ∀ l : List Pr, plainD.plainDs (l.map Pr.da) = true
  | [] => rfl
  | x :: r => by
    show (plainD x.da && plainD.plainDs (r.map Pr.da)) = true
    rw [pr_plain, prs_plain r] <;> rfl
theorem pg_plain (p : Pg) : plainD p.da = true := by
  show (plainD.plainDs (p.gs.map S) && (plainD.plainDs (p.prs.map Pr.da) && true)) = true
  rw [names_plain, prs_plain] <;> rfl
theorem dp_same {K : PySem.W.Frag} {H H' : Hp} {v : V} {d : PyData} (e : Same H H') (p : plainD d = true) (h : Dp K H v d) : Dp K H' v d := dp_keep (fun _ _ z => same_sqt e z) d v p h
theorem dp_fx {K : PySem.W.Frag} {r : Addr} {H H' : Hp} {v : V} {d : PyData} (e : Fx r H H') (n : NoTup H r) (p : plainD d = true) (h : Dp K H v d) : Dp K H' v d := dp_keep (fun _ _ z => e.sqt n z) d v p h
/-! ### a datum taken apart -/
section
variable {K : PySem.W.Frag} {H : Hp} {v : V} {x : Tx} {d1 d2 d3 : PyData} {ds : List PyData}
theorem dp_str (h : Dp K H v (S x)) : v = .str (mk x) := by cases h; rfl
theorem dp_tup (h : Dp K H v (.tuple ds)) : ∃ a vs, v = .ref a ∧ SqT K H a vs ∧ DpAll K H vs ds := by
  cases h with
  | tup h1 h2 => exact ⟨_, _, rfl, h1, h2⟩
theorem dp_t2 (h : Dp K H v (.tuple [S x, d1])) : ∃ a v1, v = .ref a ∧ SqT K H a [.str (mk x), v1] ∧ Dp K H v1 d1 := by
  obtain ⟨a, vs, rfl, h1, h2⟩ := dp_tup h
  cases h2 with | cons a1 r1 => cases r1 with | cons a2 r2 => cases r2; cases dp_str a1; exact ⟨a, _, rfl, h1, a2⟩
theorem dp_t3 (h : Dp K H v (.tuple [S x, d1, d2])) : ∃ a v1 v2, v = .ref a ∧ SqT K H a [.str (mk x), v1, v2] ∧ Dp K H v1 d1 ∧ Dp K H v2 d2 := by
  obtain ⟨a, vs, rfl, h1, h2⟩ := dp_tup h
  cases h2 with | cons a1 r1 => cases r1 with | cons a2 r2 => cases r2 with | cons a3 r3 => cases r3; cases dp_str a1; exact ⟨a, _, _, rfl, h1, a2, a3⟩
theorem dp_t4 (h : Dp K H v (.tuple [S x, d1, d2, d3])) : ∃ a v1 v2 v3, v = .ref a ∧ SqT K H a [.str (mk x), v1, v2, v3] ∧ Dp K H v1 d1 ∧ Dp K H v2 d2 ∧ Dp K H v3 d3 := by
  obtain ⟨a, vs, rfl, h1, h2⟩ := dp_tup h
  cases h2 with | cons a1 r1 => cases r1 with | cons a2 r2 => cases r2 with | cons a3 r3 => cases r3 with | cons a4 r4 => cases r4; cases dp_str a1; exact ⟨a, _, _, _, rfl, h1, a2, a3, a4⟩
end
/-! ### sizes -/
theorem digits_len : ∀ (n k : Nat), n < 10 ^ k → 0 < k → (Nat.toDigits 10 n).length ≤ k := by
  intro n k h hk
  exact Nat.length_toDigits_le_iff (by decide) (by omega) |>.mpr h
theorem dec_len {n : Nat} (h : n ≤ 10000) : (dec n).length ≤ 5 := by
  unfold dec
  rw [List.length_map]
  exact digits_len n 5 (by omega) (by decide)
theorem decI_len {i : Int} (h : -10000 ≤ i ∧ i ≤ 10000) : (decI i).length ≤ 6 := by
  unfold decI
  have := dec_len (n := i.natAbs) (by omega)
  split
  · rw [List.length_cons]; omega
  · omega
theorem name_len {x : Tx} (h : nameOk x = true) : x.length ≤ 12 := by
  unfold nameOk wordOk at h
  simp only [Bool.and_eq_true, decide_eq_true_eq] at h
  exact h.1.2
theorem sg_len (g : Sg) : g.tx.length ≤ 3 := by cases g <;> decide
theorem rl_len (g : Rl) : g.tx.length ≤ 2 := by cases g <;> decide
def exB : Nat → Nat
  | 0 => 12
  | n + 1 => 2 * exB n + 7
theorem exB_ge : ∀ n, 12 ≤ exB n
  | 0 => Nat.le_refl _
  | n + 1 => by
    have := exB_ge n
    show 12 ≤ 2 * exB n + 7
    omega
theorem ex_len : ∀ (n : Nat) (e : Ex), e.ok n → e.tx.length ≤ exB n
  | n, .num i, h => by
    have h1 : -10000 ≤ i ∧ i ≤ 10000 := by cases n <;> exact h
    have := decI_len h1
    have h2 := exB_ge n
    show (decI i).length ≤ _
    omega
  | n, .name x, h => by
    have h1 : nameOk x = true := by cases n <;> exact h
    have := name_len h1
    have h2 := exB_ge n
    show x.length ≤ _
    omega
  | 0, .op _ _ _, h => h.elim
  | n + 1, .op g l r, h => by
    have h1 := ex_len n l h.1
    have h2 := ex_len n r h.2
    have h3 := sg_len g
    show (sLp ++ (l.tx ++ [32] ++ g.tx ++ [32] ++ r.tx ++ sRp)).length ≤ 2 * exB n + 7
    simp only [List.length_append, List.length_cons, List.length_nil]
    omega
theorem ex_len3 {n : Nat} (hn : n ≤ 3) {e : Ex} (h : e.ok n) : e.tx.length ≤ 152 := by
  have h1 := ex_len n e h
  have h2 : exB n ≤ 152 := by
    rcases (by omega : n = 0 ∨ n = 1 ∨ n = 2 ∨ n = 3) with h | h | h | h <;> (subst h; decide)
  omega
end Cc
end
section
namespace Cc
open PySem PySem.Spec PyProof.Rows L2
theorem same_mut {H H' : Hp} {p : Addr} {o : HO} (e : Same H H') (h : H p = none) : Same H (upd H' p o) := fun b u q => by
  rw [upd_ne (ne_of_none q h)]
  exact e b u q
theorem fx_upd {H : Hp} {p : Addr} {o : HO} : Fx p H (upd H p o) := fun b u n q => by rw [upd_ne n]; exact q
theorem same_at {H H' : Hp} {p : Addr} {o : HO} (e : Same H H') (h : H p = some o) : H' p = some o := e p o h
theorem sgV_app (a b : List Tx) : sgV (a ++ b) = sgV a ++ sgV b := List.map_append
theorem sgV_len (a : List Tx) : (sgV a).length = a.length := List.length_map _
theorem atI_zero {x : V} {l : List V} : atI (x :: l) 0 = some x := atI_nat (j := 0) rfl
section
variable {K : PySem.W.Frag} {σ : L2.St} {H : Hp} {Q : VK} {D : Ends} {ta tb te tl : TE} {tr : TA} {t u z : TS} {v x y : V} {i j : Nat}
theorem w_bm {T : String} {r : V → List V → Hp → VK → Prop} (h : ta σ H fun x H1 => tyV K T x H1 ∧ tr σ H1 fun xs H2 => r x xs H2 Q) : tBM K T r ta tr σ H Q := h
theorem w_tyL {p : Addr} {xs : List V} {A : Prop} (h : SqL K H p xs) (q : A) : tyV K "list" (.ref p) H ∧ A := ⟨.inl ⟨rfl, _, h⟩, q⟩
theorem w_append {p : Addr} {xs : List V} (h : H p = some (.lst xs)) (n : xs.length < 16777216) (q : Q .non (upd H p (.lst (xs ++ [y])))) : rAppend (.ref p) [y] H Q := ⟨p, xs, y, rfl, rfl, h, n, q⟩
theorem w_extend {p b : Addr} {xs ys : List V} (h : H p = some (.lst xs)) (h2 : H b = some (.lst ys)) (n : xs.length + ys.length ≤ 16777216) (q : Q .non (upd H p (.lst (xs ++ ys)))) : rExtend (.ref p) [.ref b] H Q := ⟨p, b, xs, ys, rfl, rfl, h, h2, n, q⟩
theorem w_ext {H0 : Hp} {p b : Addr} {xs ys : List V} (e : Same H0 H) (f : H0 p = none) (h : H p = some (.lst xs)) (h2 : H b = some (.lst ys)) (n : xs.length + ys.length ≤ 16777216)
    (q : ∀ H', Same H0 H' → H' p = some (.lst (xs ++ ys)) → Q .non H') : rExtend (.ref p) [.ref b] H Q := w_extend h h2 n (q _ (same_mut e f) upd_same)
theorem w_app {H0 : Hp} {p : Addr} {xs : List V} (e : Same H0 H) (f : H0 p = none) (h : H p = some (.lst xs)) (n : xs.length < 16777216)
    (q : ∀ H', Same H0 H' → H' p = some (.lst (xs ++ [y])) → Q .non H') : rAppend (.ref p) [y] H Q := w_append h n (q _ (same_mut e f) upd_same)
theorem w_app2 {H0 : Hp} {p : Addr} {xs : List V} (e : Same H0 H) (f : H0 p = none) (h : H p = some (.lst xs)) (n : xs.length < 16777216)
    (q : ∀ H', Same H0 H' → Fx p H H' → H' p = some (.lst (xs ++ [y])) → Q .non H') : rAppend (.ref p) [y] H Q := w_append h n (q _ (same_mut e f) fx_upd upd_same)
theorem w_cat {p b : Addr} {xs ys : List V} (h : H p = some (.lst xs)) (h2 : H b = some (.lst ys)) (n : xs.length + ys.length ≤ 16777216) (q : ∀ l H', H l = none → Same H H' → H' l = some (.lst (xs ++ ys)) → Q (.ref l) H') : rCat (.ref p) (.ref b) H Q :=
  ⟨p, b, xs, ys, rfl, rfl, h, h2, n, fun l hl => q l _ hl (same_upd hl _) upd_same⟩
theorem w_setL {p : Addr} {xs : List V} {k : Nat} {Q : Hp → Prop} (h : H p = some (.lst xs)) (n : k < xs.length) (q : Q (upd H p (.lst (xs.set k v)))) : rSetL (.ref p) (.int (k : Int)) v H Q :=
  ⟨p, xs, (k : Int), k, rfl, rfl, h, by unfold ixN; rw [if_pos (by omega), if_pos (by omega)] <;> simp, q⟩
/-- for over a tuple, a list, a range: the target a name -/
theorem l_forT {a : Addr} {xs : List V} (ht : ∀ Q : VK, Q (.ref a) H → tl σ H Q) (hx : SqT K H a xs) (Pv : Nat → L2.St → Hp → Prop) (h0 : Pv 0 σ H) (hl : ∀ i σ' H', Pv i σ' H' → SqT K H' a xs)
    (hs : ∀ i x σ' H', xs[i]? = some x → Pv i σ' H' → t { D with nx := Pv (i + 1), ct := Pv (i + 1), bk := u D } (σ'.set j (some x)) H') (hd : ∀ σ' H', Pv xs.length σ' H' → u D σ' H') : tSeq (tFor (iTup K tl) (gName j) t) u D σ H :=
  ht _ ⟨a, rfl, ⟨xs, hx⟩, for_tup (D := { D with nx := u D }) Pv h0 (fun i σ' H' _ p => hl i σ' H' p) hs hd⟩
theorem l_forTg {a : Addr} {xs : List V} {g : TG} (ht : ∀ Q : VK, Q (.ref a) H → tl σ H Q) (hx : SqT K H a xs) (Pv : Nat → L2.St → Hp → Prop) (h0 : Pv 0 σ H) (hl : ∀ i σ' H', Pv i σ' H' → SqT K H' a xs)
    (hs : ∀ i x σ' H', xs[i]? = some x → Pv i σ' H' → g x σ' H' fun σ2 H2 => t { D with nx := Pv (i + 1), ct := Pv (i + 1), bk := u D } σ2 H2) (hd : ∀ σ' H', Pv xs.length σ' H' → u D σ' H') : tSeq (tFor (iTup K tl) g t) u D σ H :=
  ht _ ⟨a, rfl, ⟨xs, hx⟩, for_tup (D := { D with nx := u D }) Pv h0 (fun i σ' H' _ p => hl i σ' H' p) hs hd⟩
theorem l_forL {a : Addr} {xs : List V} (ht : ∀ Q : VK, Q (.ref a) H → tl σ H Q) (hx : SqL K H a xs) (Pv : Nat → L2.St → Hp → Prop) (h0 : Pv 0 σ H) (hl : ∀ i σ' H', Pv i σ' H' → SqL K H' a xs)
    (hs : ∀ i x σ' H', xs[i]? = some x → Pv i σ' H' → t { D with nx := Pv (i + 1), ct := Pv (i + 1), bk := u D } (σ'.set j (some x)) H') (hd : ∀ σ' H', Pv xs.length σ' H' → u D σ' H') : tSeq (tFor (iList K tl) (gName j) t) u D σ H :=
  ht _ ⟨a, rfl, ⟨xs, hx⟩, for_list (D := { D with nx := u D }) Pv h0 (fun i σ' H' _ p => hl i σ' H' p) hs hd⟩
theorem l_forR {n : Nat} (ht : ∀ Q : List V → Hp → Prop, Q [.int (n : Int)] H → tr σ H Q) (hn : n ≤ 1000000) (Pv : Nat → L2.St → Hp → Prop) (h0 : Pv 0 σ H)
    (hs : ∀ (i : Nat) σ' H', i < n → Pv i σ' H' → t { D with nx := Pv (i + 1), ct := Pv (i + 1), bk := u D } (σ'.set j (some (.int (i : Int)))) H') (hd : ∀ σ' H', Pv n σ' H' → u D σ' H') : tSeq (tFor (iRng1 tr) (gName j) t) u D σ H := by
  refine ht _ ⟨(n : Int), rfl, by omega, by omega, ?_⟩
  have e : ((n : Int)).toNat = n := by omega
  rw [e]
  refine for_range (D := { D with nx := u D }) (lo := 0) (n := n) Pv h0 (fun i σ' H' hi p => ?_) hd
  have q := hs i σ' H' hi p
  have e0 : (0 : Int) + (i : Int) = (i : Int) := Int.zero_add _
  show t _ (σ'.set j (some (.int ((0 : Int) + (i : Int))))) H'
  rw [e0]
  exact q
/-- a comprehension: what each turn gives -/
def Lcw (H : Hp) (R : Addr → Nat → V → Hp → Prop) (D : Addr) (i : Nat) (H' : Hp) : Prop := Same H H' ∧ ∃ ys, H' D = some (.lst ys) ∧ ys.length = i ∧ ∀ k y, ys[k]? = some y → R D k y H'
theorem lcw_turn {R : Addr → Nat → V → Hp → Prop} (mono : ∀ D i v H H', Fx D H H' → R D i v H → R D i v H') {D : Addr} {σ2 : L2.St} {H' : Hp} (hD : H D = none) (hi : i < 1000000) (p : Lcw H R D i H')
    (he : ∀ Q' : VK, (∀ v H3, Same H' H3 → R D i v H3 → Q' v H3) → te σ2 H' Q') :
    tYes σ2 H' fun b H3 => if b = true then te σ2 H3 fun y H4 => ∃ acc, H4 D = some (.lst acc) ∧ acc.length < sizeLine ∧ Lcw H R D (i + 1) (upd H4 D (.lst (acc ++ [y]))) else Lcw H R D (i + 1) H3 := by
  obtain ⟨p1, ys, p2, p3, p4⟩ := p
  refine w_yes ?_
  refine iteT (he _ fun v H3 e r => ⟨ys, e _ _ p2, Nat.lt_of_le_of_lt (by omega : ys.length ≤ 1000000) (by decide), same_mut (p1.trans e) hD, ys ++ [v], upd_same, by simp; exact p3, fun k y hk => ?_⟩)
  by_cases hk2 : k < ys.length
  · rw [List.getElem?_append_left hk2] at hk
    exact mono D k y _ _ ((same_fx e).trans fx_upd) (p4 k y hk)
  · rw [List.getElem?_append_right (by omega)] at hk
    have h0 : k - ys.length = 0 := by
      have := (List.getElem?_eq_some_iff.mp hk).1
      simp at this
      omega
    rw [h0] at hk
    cases hk
    have hki : k = i := by
      rw [← p3]
      omega
    subst hki
    exact mono D k v _ _ fx_upd r
theorem w_lcT {R : Addr → Nat → V → Hp → Prop} {a : Addr} {xs : List V} (ht : ∀ Q : VK, Q (.ref a) H → tl σ H Q) (hx : SqT K H a xs) (hn : xs.length ≤ 1000000) (mono : ∀ D i v H H', Fx D H H' → R D i v H → R D i v H')
    (hw : ∀ x, wipe ((wipe σ [j]).set j (some x)) [j] = wipe σ [j])
    (he : ∀ D i x H2, xs[i]? = some x → H D = none → (∃ ys, H2 D = some (.lst ys)) → Same H H2 → ∀ Q' : VK, (∀ v H3, Same H2 H3 → R D i v H3 → Q' v H3) → te ((wipe σ [j]).set j (some x)) H2 Q')
    (hd : ∀ D H' ys, H D = none → Same H H' → H' D = some (.lst ys) → ys.length = xs.length → (∀ i y, ys[i]? = some y → R D i y H') → Q (.ref D) H') : tLc (iTup K tl) (gName j) tYes te [j] σ H Q := by
  refine ht _ ⟨a, rfl, ⟨xs, hx⟩, fun D hD => ?_⟩
  refine lc_tup (xs := xs) (Lcw H R D) ⟨same_upd hD _, [], upd_same, rfl, fun k y h => by simp at h⟩ (fun i H' _ p => same_sqt p.1 hx) (fun i x H' hi p => ⟨hw x, ?_⟩) (fun H' p => ?_)
  · have hil := (List.getElem?_eq_some_iff.mp hi).1
    exact lcw_turn mono hD (by omega) p (he D i x H' hi hD (let ⟨_, ys, h, _⟩ := p; ⟨ys, h⟩) p.1)
  · obtain ⟨p1, ys, p2, p3, p4⟩ := p
    exact hd D H' ys hD p1 p2 p3 p4
theorem w_lcL {R : Addr → Nat → V → Hp → Prop} {a : Addr} {xs : List V} (ht : ∀ Q : VK, Q (.ref a) H → tl σ H Q) (hx : SqL K H a xs) (hn : xs.length ≤ 1000000) (mono : ∀ D i v H H', Fx D H H' → R D i v H → R D i v H')
    (hw : ∀ x, wipe ((wipe σ [j]).set j (some x)) [j] = wipe σ [j])
    (he : ∀ D i x H2, xs[i]? = some x → H D = none → (∃ ys, H2 D = some (.lst ys)) → Same H H2 → ∀ Q' : VK, (∀ v H3, Same H2 H3 → R D i v H3 → Q' v H3) → te ((wipe σ [j]).set j (some x)) H2 Q')
    (hd : ∀ D H' ys, H D = none → Same H H' → H' D = some (.lst ys) → ys.length = xs.length → (∀ i y, ys[i]? = some y → R D i y H') → Q (.ref D) H') : tLc (iList K tl) (gName j) tYes te [j] σ H Q := by
  refine ht _ ⟨a, rfl, ⟨xs, hx⟩, fun D hD => ?_⟩
  refine lc_list (xs := xs) (Lcw H R D) ⟨same_upd hD _, [], upd_same, rfl, fun k y h => by simp at h⟩ (fun i H' _ p => L2.Same.seq p.1 hx) (fun i x H' hi p => ⟨hw x, ?_⟩) (fun H' p => ?_)
  · have hil := (List.getElem?_eq_some_iff.mp hi).1
    exact lcw_turn mono hD (by omega) p (he D i x H' hi hD (let ⟨_, ys, h, _⟩ := p; ⟨ys, h⟩) p.1)
  · obtain ⟨p1, ys, p2, p3, p4⟩ := p
    exact hd D H' ys hD p1 p2 p3 p4
/-- .. where each turn gives a value told ahead -/
theorem list_eq_of {ys zs : List V} (n : ys.length = zs.length) (h : ∀ (i : Nat) (y : V), ys[i]? = some y → zs[i]? = some y) : ys = zs := by
  apply List.ext_getElem? 
  intro i
  cases e : ys[i]? with
  | some y => exact (h i y e).symm
  | none =>
    have h1 := List.getElem?_eq_none_iff.mp e
    exact (List.getElem?_eq_none_iff.mpr (by omega)).symm
theorem w_lcTv {a : Addr} {xs : List V} (zs : List V) (ht : ∀ Q : VK, Q (.ref a) H → tl σ H Q) (hx : SqT K H a xs) (hn : xs.length ≤ 1000000) (hz : zs.length = xs.length)
    (hw : ∀ x, wipe ((wipe σ [j]).set j (some x)) [j] = wipe σ [j])
    (he : ∀ (i : Nat) (x z : V) (H2 : Hp), xs[i]? = some x → zs[i]? = some z → Same H H2 → ∀ Q' : VK, (∀ H3, Same H2 H3 → Q' z H3) → te ((wipe σ [j]).set j (some x)) H2 Q')
    (hd : ∀ D H', H D = none → Same H H' → H' D = some (.lst zs) → Q (.ref D) H') : tLc (iTup K tl) (gName j) tYes te [j] σ H Q :=
  w_lcT (R := fun _ i v _ => zs[i]? = some v) ht hx hn (fun _ _ _ _ _ _ h => h) hw (fun D i x H2 hi _ _ e Q' q => by
    have hil := (List.getElem?_eq_some_iff.mp hi).1
    have hz2 : zs[i]? = some zs[i] := List.getElem?_eq_getElem (by omega)
    exact he i x _ H2 hi hz2 e Q' fun H3 e3 => q _ H3 e3 hz2) fun D H' ys hD e h n r => hd D H' hD e (by rw [h, list_eq_of (by omega) r])
theorem w_lcLv {a : Addr} {xs : List V} (zs : List V) (ht : ∀ Q : VK, Q (.ref a) H → tl σ H Q) (hx : SqL K H a xs) (hn : xs.length ≤ 1000000) (hz : zs.length = xs.length)
    (hw : ∀ x, wipe ((wipe σ [j]).set j (some x)) [j] = wipe σ [j])
    (he : ∀ (i : Nat) (x z : V) (H2 : Hp), xs[i]? = some x → zs[i]? = some z → Same H H2 → ∀ Q' : VK, (∀ H3, Same H2 H3 → Q' z H3) → te ((wipe σ [j]).set j (some x)) H2 Q')
    (hd : ∀ D H', H D = none → Same H H' → H' D = some (.lst zs) → Q (.ref D) H') : tLc (iList K tl) (gName j) tYes te [j] σ H Q :=
  w_lcL (R := fun _ i v _ => zs[i]? = some v) ht hx hn (fun _ _ _ _ _ _ h => h) hw (fun D i x H2 hi _ _ e Q' q => by
    have hil := (List.getElem?_eq_some_iff.mp hi).1
    have hz2 : zs[i]? = some zs[i] := List.getElem?_eq_getElem (by omega)
    exact he i x _ H2 hi hz2 e Q' fun H3 e3 => q _ H3 e3 hz2) fun D H' ys hD e h n r => hd D H' hD e (by rw [h, list_eq_of (by omega) r])
/-- joined texts -/
theorem txt_join_mk (ls : List Tx) : Txt.join (mk [44, 32]) (ls.map mk) = mk (cjoin ls) := by
  rw [TL.join_eq]
  induction ls with
  | nil => rfl
  | cons x r ih =>
    cases r with
    | nil => rfl
    | cons y r =>
      show mk x ++ mk [44, 32] ++ Str.join (mk [44, 32]) ((y :: r).map mk) = mk (x ++ [44, 32] ++ cjoin (y :: r))
      rw [ih, mk_app, mk_app]
theorem txt_join_nil (ls : List Tx) : Txt.join (mk []) (ls.map mk) = mk ls.flatten := by
  rw [TL.join_eq]
  induction ls with
  | nil => rfl
  | cons x r ih =>
    cases r with
    | nil => simp [Str.join]
    | cons y r =>
      show mk x ++ mk [] ++ Str.join (mk []) ((y :: r).map mk) = mk (x ++ (y :: r).flatten)
      rw [ih, mk_app, mk_app]
      simp
theorem sum_len (ls : List Tx) : ((ls.map mk).map (·.length)).sum = ls.flatten.length := by
  induction ls with
  | nil => rfl
  | cons x r ih =>
    rw [List.map_cons, List.map_cons, List.sum_cons, ih, List.flatten_cons, List.length_append, mk_len]
theorem sgV_map (ls : List Tx) : (ls.map mk).map V.str = sgV ls := by
  unfold sgV
  rw [List.map_map]
  rfl
theorem w_joinC {p : Addr} {ls : List Tx} (h : SqL K H p (sgV ls) ∨ SqT K H p (sgV ls)) (n : ls.flatten.length + ls.length * 2 ≤ 16777216) (q : Q (.str (mk (cjoin ls))) H) : cJoin K (.str (mk [44, 32])) [.ref p] H Q :=
  ⟨mk [44, 32], p, ls.map mk, rfl, rfl, by rw [sgV_map]; exact h, by rw [sum_len, List.length_map]; exact n, by rw [txt_join_mk]; exact q⟩
theorem w_joinN {p : Addr} {ls : List Tx} (h : SqL K H p (sgV ls) ∨ SqT K H p (sgV ls)) (n : ls.flatten.length ≤ 16777216) (q : Q (.str (mk ls.flatten)) H) : cJoin K (.str (mk [])) [.ref p] H Q :=
  ⟨mk [], p, ls.map mk, rfl, rfl, by rw [sgV_map]; exact h, by rw [sum_len, List.length_map]; exact n, by rw [txt_join_nil]; exact q⟩
end
end Cc
end
section
open PySem PySem.Spec PyProof.Rows L2
/-! ### small hands: what stands, sizes, one step of a reading -/
open Cc L2 in
local macro_rules | `(tactic| walk_at "sm") => `(tactic| first | exact L2.Same.refl _ | assumption | (refine' L2.Same.trans ?l ?r; (case r => assumption); (case l => walk_at "sm")))
open Cc L2 in
local macro_rules | `(tactic| walk_at "tup") => `(tactic| first | assumption | exact SqT.of (by assumption) | (refine' same_sqt ?e ?h; (case h => first | assumption | exact SqT.of (by assumption)); (case e => walk_at "sm")))
open Cc L2 in
local macro_rules | `(tactic| walk_at "lst") => `(tactic| first | assumption | exact SqL.of (by assumption) | (refine' L2.Same.seq ?e ?h; (case h => first | assumption | exact SqL.of (by assumption)); (case e => walk_at "sm")))
open Cc L2 in
local macro_rules | `(tactic| walk_at "at") => `(tactic| first | assumption | exact upd_same | (refine' same_at ?e ?h; (case h => assumption); (case e => walk_at "sm")))
open Cc L2 in
local macro_rules | `(tactic| walk_at "fr") => `(tactic| first | assumption | (refine' L2.Same.free ?e ?h; (case h => assumption); (case e => walk_at "sm")))
open Cc L2 in
local macro_rules | `(tactic| walk_at "ext") => `(tactic| ((with_reducible refine' w_ext ?e ?f ?h ?g ?n ?_); (case e => walk_at "sm"); (case f => walk_at "fr"); (case h => walk_at "at"); (case g => walk_at "at"); (case n => walk_at "sz"); intro H' e' h'))
open Cc L2 in
local macro_rules | `(tactic| walk_at "app") => `(tactic| ((with_reducible refine' w_app ?e ?f ?h ?n ?_); (case e => walk_at "sm"); (case f => walk_at "fr"); (case h => walk_at "at"); (case n => walk_at "sz"); intro H' e' h'))
open Cc L2 in
local macro_rules | `(tactic| walk_at "plain") => `(tactic| first | exact ex_plain _ | exact co_plain _ | exact sm_plain _ | exact sms_plain _ | exact pr_plain _ | exact pg_plain _ | rfl | assumption)
open Cc L2 in
local macro_rules | `(tactic| walk_at "dp") => `(tactic| first | assumption | exact Dp.str _ | exact Dp.int _ | exact Dp.non | (refine' dp_same ?e ?p ?h; (case h => assumption); (case e => walk_at "sm"); (case p => walk_at "plain")))
open Cc L2 in
local macro_rules | `(tactic| walk_at "sz") => `(tactic| first | omega | (simp only [List.length_append, List.length_cons, List.length_nil, sgV_len, List.length_replicate, List.length_map]; omega))
open Cc L2 in
local macro_rules | `(tactic| walk_at "szi") => `(tactic| (simp only [four, List.length_append, List.length_cons, List.length_nil]; omega))
open Cc L2 in
local macro_rules | `(tactic| walk_at "go1") => `(tactic| first
  | ((with_reducible refine' w_var ?h ?_); (case h => exact rfl))
  | with_reducible refine' w_c ?_
  | with_reducible refine' w_op ?_
  | with_reducible refine' w_cons ?_
  | with_reducible refine' w_nil ?_
  | ((with_reducible refine' w_ixT ?h ?e ?_); (case h => walk_at "tup"); (case e => first | exact rfl | exact atI_zero))
  | with_reducible refine' w_eqS ?_
  | ((with_reducible refine' w_addS ?h ?_); (case h => walk_at "sz"))
  | with_reducible refine' w_test ?_
  | with_reducible refine' w_B ?_
  | with_reducible refine' w_bl ?_
  | with_reducible refine' w_bl2 ?_
  | with_reducible refine' s_set ?_
  | with_reducible refine' s_when ?_
  | with_reducible refine' s_whenl ?_
  | with_reducible refine' s_if ?_
  | with_reducible refine' s_ifl ?_
  | with_reducible refine' s_ret ?_
  | with_reducible refine' s_drop ?_
  | with_reducible refine' s_dropl ?_
  | with_reducible refine' s_setl ?_
  | with_reducible refine' w_t (by decide) ?_
  | with_reducible refine' w_f (by decide) ?_
  | with_reducible refine' w_t (by with_unfolding_all exact rfl) ?_
  | with_reducible refine' w_f (by with_unfolding_all exact rfl) ?_
  | with_reducible refine' w_I0 ?_
  | with_reducible refine' w_eqI ?_
  | with_reducible refine' w_neS ?_
  | with_reducible refine' w_call ?_
  | with_reducible refine' w_callB ?_
  | with_reducible refine' w_not ?_
  | with_reducible refine' w_and ?_
  | with_reducible refine' w_or ?_
  | with_reducible refine' w_andV ?_
  | with_reducible refine' w_orV ?_
  | with_reducible refine' w_notV ?_
  | with_reducible refine' w_if ?_
  | with_reducible refine' w_m1 ?_
  | with_reducible refine' w_m1' ?_
  | with_reducible refine' w_tup ?_
  | with_reducible refine' w_lst ?_
  | ((with_reducible refine' w_newT ?n ?_); (case n => exact Nat.le_of_ble_eq_true rfl); intro p H' hp hs ht)
  | ((with_reducible refine' w_newL ?n ?_); (case n => exact Nat.le_of_ble_eq_true rfl); intro p H' hp hs ht)
  | ((with_reducible refine' w_in (Or.inr ?h) ?x ?s ?_); (case h => walk_at "tup"); (case x => exact rfl); (case s => exact rfl))
  | ((with_reducible refine' w_in (Or.inl ?h) ?x ?s ?_); (case h => walk_at "lst"); (case x => exact rfl); (case s => exact rfl))
  | with_reducible refine' w_isNone ?_
  | with_reducible refine' w_un ?_
  | with_reducible refine' w_neg ?_
  | with_reducible refine' w_inSign ?_
  | ((with_reducible refine' w_lenS ?h ?_); (case h => walk_at "sz"))
  | ((with_reducible refine' w_lenT ?h ?_); (case h => walk_at "tup"))
  | ((with_reducible refine' w_lenL ?h ?_); (case h => walk_at "lst"))
  | with_reducible refine' w_int1 ?_
  | with_reducible refine' w_abs ?_
  | ((with_reducible refine' w_strI ?h ?_); (case h => walk_at "sz"))
  | with_reducible refine' s_asg ?_
  | with_reducible refine' s_asgl ?_
  | with_reducible refine' w_bm ?_
  | ((with_reducible refine' w_tyL ?h ?_); (case h => walk_at "lst"))
  | ((with_reducible refine' w_cat ?h ?g ?n ?_); (case h => walk_at "at"); (case g => walk_at "at"); (case n => walk_at "sz"); intro p H' hp hs ht)
  | with_reducible refine' w_meth ?_)
open Cc L2 in
local macro_rules | `(tactic| walk_at "go") => `(tactic| (walk_at "go1"; repeat walk_at "go1"))
namespace Cc
/-! ### what the writer's defs promise -/
def RetV (v : V) (H : Hp) (Q : VK) : Prop := ∀ H', Same H H' → Q v H'
def RetL (ls : List Tx) (H : Hp) (Q : VK) : Prop := ∀ p H', H p = none → Same H H' → H' p = some (.lst (sgV ls)) → Q (.ref p) H'
theorem RetV.at_ {v : V} {H : Hp} {Q : VK} (h : RetV v H Q) : Q v H := h H (Same.refl H)
def sp_expression_text (K : PySem.W.Frag) (n : Nat) : Sp := fun vs H Q _ => ∃ (v : V) (e : Ex) (m : Nat), vs = [v] ∧ n = m + 1 ∧ m ≤ 3 ∧ Dp K H v e.da ∧ e.ok m ∧ RetV (.str (mk e.tx)) H Q
theorem ex_num {m : Nat} {i : Int} (h : (Ex.num i).ok m) : -10000 ≤ i ∧ i ≤ 10000 := by cases m <;> exact h
theorem ex_nam {m : Nat} {x : Tx} (h : (Ex.name x).ok m) : nameOk x = true := by cases m <;> exact h
theorem ex_op {m : Nat} {g : Sg} {l r : Ex} (h : (Ex.op g l r).ok m) : ∃ j, m = j + 1 ∧ l.ok j ∧ r.ok j := by
  cases m with
  | zero => exact h.elim
  | succ j => exact ⟨j, rfl, h.1, h.2⟩
theorem ex_up : ∀ {n m : Nat}, n ≤ m → ∀ {e : Ex}, e.ok n → e.ok m
  | n, m, _, .num i, h => by have h := ex_num h; cases m <;> exact h
  | n, m, _, .name x, h => by have h := ex_nam h; cases m <;> exact h
  | n, m, le, .op g l r, h => by
    obtain ⟨j, rfl, h1, h2⟩ := ex_op h
    cases m with
    | zero => omega
    | succ i => exact ⟨ex_up (by omega) h1, ex_up (by omega) h2⟩
theorem pu_expression_text {K : PySem.W.Frag} {n : Nat} (vs : List V) (H : Hp) (Q : VK) (E : XK) (h : sp_expression_text K (n + 1) vs H Q E) :
    t_expression_text K (sp_expression_text K n) { nx := fun _ H' => Q .non H', rt := Q } (start n_expression_text vs) H := by
  obtain ⟨v, e, m, rfl, hm, h3, hd, hk, q⟩ := h
  delta t_expression_text
  cases hm
  cases e with
  | num i =>
    obtain ⟨a, v1, rfl, ht, hd1⟩ := dp_t2 hd
    cases hd1
    have hi := ex_num hk
    walk_at "go"
    exact q.at_
  | name x =>
    obtain ⟨a, v1, rfl, ht, hd1⟩ := dp_t2 hd
    cases dp_str hd1
    walk_at "go"
    exact q.at_
  | op g l r =>
    obtain ⟨a, v1, v2, v3, rfl, ht, hd1, hd2, hd3⟩ := dp_t4 hd
    cases dp_str hd1
    obtain ⟨j, rfl, hl, hr⟩ := ex_op hk
    have sl := ex_len3 (by omega) hl
    have sr := ex_len3 (by omega) hr
    have sg := sg_len g
    walk_at "go"
    refine ⟨v2, l, j, rfl, rfl, by omega, by walk_at "dp", hl, fun H1 e1 => ?_⟩
    walk_at "go"
    refine ⟨v3, r, j, rfl, rfl, by omega, by walk_at "dp", hr, fun H2 e2 => ?_⟩
    walk_at "go"
    have e : sLp ++ l.tx ++ [32] ++ g.tx ++ [32] ++ r.tx ++ sRp = (Ex.op g l r).tx := by
      show _ = sLp ++ (l.tx ++ [32] ++ g.tx ++ [32] ++ r.tx ++ sRp)
      simp only [List.append_assoc]
    rw [show ([40] : Tx) = sLp from rfl, show ([41] : Tx) = sRp from rfl, e]
    exact q _ (e1.trans e2)
/-! ### conditions -/
def coB : Nat → Nat
  | 0 => 66
  | n + 1 => 2 * coB n + 7
theorem coB_ge : ∀ n, 66 ≤ coB n
  | 0 => Nat.le_refl _
  | n + 1 => by
    have := coB_ge n
    show 66 ≤ 2 * coB n + 7
    omega
theorem co_cmp {m : Nat} {g : Rl} {l r : Ex} (h : (Co.cmp g l r).ok m) : l.ok 1 ∧ r.ok 1 := by cases m <;> exact h
theorem co_not {m : Nat} {c : Co} (h : (Co.not c).ok m) : ∃ j, m = j + 1 ∧ c.ok j := by
  cases m with
  | zero => exact h.elim
  | succ j => exact ⟨j, rfl, h⟩
theorem co_bin {m : Nat} {k : Bool} {a b : Co} (h : (Co.bin k a b).ok m) : ∃ j, m = j + 1 ∧ a.ok j ∧ b.ok j := by
  cases m with
  | zero => exact h.elim
  | succ j => exact ⟨j, rfl, h.1, h.2⟩
theorem andOr_len (k : Bool) : (andOr k).length ≤ 3 := by cases k <;> decide
theorem ex_len1 {e : Ex} (h : e.ok 1) : e.tx.length ≤ 31 := ex_len 1 e h
theorem co_len : ∀ (n : Nat) (c : Co), c.ok n → c.tx.length ≤ coB n
  | n, .cmp g l r, h => by
    have h1 := ex_len1 (co_cmp h).1
    have h2 := ex_len1 (co_cmp h).2
    have h3 := rl_len g
    have h4 := coB_ge n
    show (l.tx ++ [32] ++ g.tx ++ [32] ++ r.tx).length ≤ coB n
    simp only [List.length_append, List.length_cons, List.length_nil]
    omega
  | 0, .not _, h => h.elim
  | n + 1, .not c, h => by
    have h1 := co_len n c h
    show (kNot ++ [32] ++ c.tx).length ≤ 2 * coB n + 7
    simp only [List.length_append, List.length_cons, List.length_nil]
    omega
  | 0, .bin _ _ _, h => h.elim
  | n + 1, .bin k a b, h => by
    have h1 := co_len n a h.1
    have h2 := co_len n b h.2
    have h3 := andOr_len k
    show (sLs ++ (a.tx ++ [32] ++ andOr k ++ [32] ++ b.tx ++ sRs)).length ≤ 2 * coB n + 7
    simp only [List.length_append, List.length_cons, List.length_nil]
    omega
theorem co_len2 {n : Nat} (hn : n ≤ 2) {c : Co} (h : c.ok n) : c.tx.length ≤ 285 := by
  have h1 := co_len n c h
  have h2 : coB n ≤ 285 := by
    rcases (by omega : n = 0 ∨ n = 1 ∨ n = 2) with h | h | h <;> (subst h; decide)
  omega
def sp_condition_text (K : PySem.W.Frag) (n : Nat) : Sp := fun vs H Q _ => ∃ (v : V) (c : Co) (m : Nat), vs = [v] ∧ n = m + 1 ∧ m ≤ 2 ∧ Dp K H v c.da ∧ c.ok m ∧ RetV (.str (mk c.tx)) H Q
theorem pu_condition_text {K : PySem.W.Frag} {n : Nat} (vs : List V) (H : Hp) (Q : VK) (E : XK) (h : sp_condition_text K (n + 1) vs H Q E) :
    t_condition_text K (sp_condition_text K n) (sp_expression_text K 4) { nx := fun _ H' => Q .non H', rt := Q } (start n_condition_text vs) H := by
  obtain ⟨v, c, m, rfl, hm, h3, hd, hk, q⟩ := h
  delta t_condition_text
  cases hm
  cases c with
  | not c =>
    obtain ⟨a, v1, rfl, ht, hd1⟩ := dp_t2 hd
    obtain ⟨j, rfl, hc⟩ := co_not hk
    have sc := co_len2 (by omega) hc
    walk_at "go"
    refine ⟨v1, c, j, rfl, rfl, by omega, by walk_at "dp", hc, fun H1 e1 => ?_⟩
    walk_at "go"
    exact q _ e1
  | cmp g l r =>
    obtain ⟨a, v1, v2, v3, rfl, ht, hd1, hd2, hd3⟩ := dp_t4 hd
    cases dp_str hd1
    obtain ⟨hl, hr⟩ := co_cmp hk
    have sl := ex_len1 hl
    have sr := ex_len1 hr
    have sg := rl_len g
    walk_at "go"
    refine ⟨v2, l, 3, rfl, rfl, by omega, by walk_at "dp", ex_up (by decide) hl, fun H1 e1 => ?_⟩
    walk_at "go"
    refine ⟨v3, r, 3, rfl, rfl, by omega, by walk_at "dp", ex_up (by decide) hr, fun H2 e2 => ?_⟩
    walk_at "go"
    exact q _ (e1.trans e2)
  | bin k a b =>
    obtain ⟨p, v1, v2, rfl, ht, hd1, hd2⟩ := dp_t3 hd
    obtain ⟨j, rfl, ha, hb⟩ := co_bin hk
    have sa := co_len2 (by omega) ha
    have sb := co_len2 (by omega) hb
    have sg := andOr_len k
    have k1 : andOr k ≠ kNot := by cases k <;> decide
    have k2 : andOr k ≠ [99, 111, 109, 112, 97, 114, 101] := by cases k <;> decide
    walk_at "go"
    refine w_f (decide_eq_false k1) ?_
    walk_at "go"
    refine w_f (decide_eq_false k2) ?_
    walk_at "go"
    refine ⟨v1, a, j, rfl, rfl, by omega, by walk_at "dp", ha, fun H1 e1 => ?_⟩
    walk_at "go"
    refine ⟨v2, b, j, rfl, rfl, by omega, by walk_at "dp", hb, fun H2 e2 => ?_⟩
    walk_at "go"
    have e : [91] ++ a.tx ++ [32] ++ andOr k ++ [32] ++ b.tx ++ [93] = (Co.bin k a b).tx := by
      show _ = sLs ++ (a.tx ++ [32] ++ andOr k ++ [32] ++ b.tx ++ sRs)
      simp only [List.append_assoc]
    rw [e]
    exact q _ (e1.trans e2)
end Cc
namespace Cc
section
variable {K : PySem.W.Frag} {H : Hp}
theorem dpall_len : ∀ {vs : List V} {ds : List PyData}, DpAll K H vs ds → vs.length = ds.length
  | _, _, .nil => rfl
  | _, _, .cons _ r => by rw [List.length_cons, List.length_cons, dpall_len r]
theorem dpall_get : ∀ {vs : List V} {ds : List PyData} {i : Nat} {x : V}, DpAll K H vs ds → vs[i]? = some x → ∃ d, ds[i]? = some d ∧ Dp K H x d
  | _, _, _, _, .nil, e => by simp at e
  | _, _, 0, _, .cons a _, e => by
    simp at e
    subst e
    exact ⟨_, rfl, a⟩
  | _, _, i + 1, x, .cons _ r, e => by
    obtain ⟨d, h1, h2⟩ := dpall_get (i := i) (x := x) r (by simpa using e)
    exact ⟨d, by simpa using h1, h2⟩
theorem dpall_map {α : Type} {f : α → PyData} {l : List α} {vs : List V} {i : Nat} {x : V} (h : DpAll K H vs (l.map f)) (e : vs[i]? = some x) : ∃ y, l[i]? = some y ∧ Dp K H x (f y) := by
  obtain ⟨d, h1, h2⟩ := dpall_get h e
  rw [List.getElem?_map] at h1
  cases q : l[i]? with
  | none => rw [q] at h1; cases h1
  | some y =>
    rw [q] at h1
    cases h1
    exact ⟨y, rfl, h2⟩
end
theorem flat_len {B : Nat} : ∀ {ls : List Tx}, (∀ l ∈ ls, l.length ≤ B) → ls.flatten.length ≤ B * ls.length
  | [], _ => Nat.zero_le _
  | x :: r, h => by
    have h1 := h x List.mem_cons_self
    have h2 := flat_len (ls := r) fun l hl => h l (List.mem_cons_of_mem _ hl)
    rw [List.flatten_cons, List.length_append, List.length_cons, Nat.mul_succ]
    omega
theorem cjoin_len : ∀ ls : List Tx, (cjoin ls).length ≤ ls.flatten.length + 2 * ls.length
  | [] => Nat.zero_le _
  | [x] => by simp [cjoin]
  | x :: y :: r => by
    have h := cjoin_len (y :: r)
    show (x ++ [44, 32] ++ cjoin (y :: r)).length ≤ _
    simp only [List.length_append, List.length_cons, List.length_nil, List.flatten_cons] at h ⊢
    omega
def Sm.flat : Sm → Bool
  | .ite _ _ _ => false
  | .whil _ _ => false
  | _ => true
theorem sm_set {m : Nat} {x : Tx} {e : Ex} (h : (Sm.set x e).ok m) : nameOk x = true ∧ e.ok 3 := by
  cases m <;> (simp only [Sm.ok] at h; exact h)
theorem sm_ask {m : Nat} {x : Tx} (h : (Sm.ask x).ok m) : nameOk x = true := by
  cases m <;> (simp only [Sm.ok] at h; exact h)
theorem sm_tell {m : Nat} {k : Bool} {e : Ex} (h : (Sm.tell k e).ok m) : e.ok 3 := by
  cases m <;> (simp only [Sm.ok] at h; exact h)
theorem sm_chk {m : Nat} {k : Bool} {c : Co} (h : (Sm.chk k c).ok m) : c.ok 2 := by
  cases m <;> (simp only [Sm.ok] at h; exact h)
theorem sm_call {m : Nat} {f : Tx} {es : List Ex} {t : Option Tx} (h : (Sm.call f es t).ok m) : nameOk f = true ∧ es.length ≤ 3 ∧ (∀ e ∈ es, e.ok 1) ∧ ∀ x ∈ t, nameOk x = true := by
  cases m <;> (simp only [Sm.ok] at h; exact h)
theorem sm_ite {m : Nat} {c : Co} {a b : List Sm} (h : (Sm.ite c a b).ok m) : ∃ j, m = j + 1 ∧ c.ok 2 ∧ a.length ≤ 3 ∧ b.length ≤ 3 ∧ (∀ s ∈ a, Sm.ok j s) ∧ ∀ s ∈ b, Sm.ok j s := by
  cases m with
  | zero => simp only [Sm.ok] at h
  | succ j => simp only [Sm.ok] at h; exact ⟨j, rfl, h⟩
theorem sm_whil {m : Nat} {c : Co} {a : List Sm} (h : (Sm.whil c a).ok m) : ∃ j, m = j + 1 ∧ c.ok 2 ∧ a.length ≤ 3 ∧ ∀ s ∈ a, Sm.ok j s := by
  cases m with
  | zero => simp only [Sm.ok] at h
  | succ j => simp only [Sm.ok] at h; exact ⟨j, rfl, h⟩
theorem es_flat {es : List Ex} (h : ∀ e ∈ es, e.ok 1) : (es.map Ex.tx).flatten.length ≤ 31 * es.length := by
  have := flat_len (B := 31) (ls := es.map Ex.tx) fun l hl => by
    obtain ⟨e, he, rfl⟩ := List.mem_map.mp hl
    exact ex_len1 (h e he)
  rw [List.length_map] at this
  exact this
theorem simple_len {m : Nat} {s : Sm} (h : s.ok m) : s.simple.length ≤ 320 := by
  cases s with
  | set x e =>
    have h1 := name_len (sm_set h).1
    have h2 := ex_len3 (by decide) (sm_set h).2
    show (x ++ [32, 61, 32] ++ e.tx).length ≤ 320
    simp only [List.length_append, List.length_cons, List.length_nil]
    omega
  | ask x =>
    have h1 := name_len (sm_ask h)
    show (kAsk ++ [32] ++ x).length ≤ 320
    simp only [List.length_append, List.length_cons, List.length_nil]
    omega
  | tell k e =>
    have h2 := ex_len3 (by decide) (sm_tell h)
    have h3 : (tellRet k).length ≤ 6 := by cases k <;> decide
    show (tellRet k ++ [32] ++ e.tx).length ≤ 320
    simp only [List.length_append, List.length_cons, List.length_nil]
    omega
  | chk k c =>
    have h2 := co_len2 (by decide) (sm_chk h)
    have h3 : (chkNeed k).length ≤ 6 := by cases k <;> decide
    show (chkNeed k ++ [32] ++ c.tx).length ≤ 320
    simp only [List.length_append, List.length_cons, List.length_nil]
    omega
  | call f es t =>
    obtain ⟨h1, h2, h3, h4⟩ := sm_call h
    have h5 := name_len h1
    have h6 := es_flat h3
    have h7 := cjoin_len (es.map Ex.tx)
    rw [List.length_map] at h7
    have h8 : (toTx t).length ≤ 16 := by
      cases t with
      | none => decide
      | some x =>
        have := name_len (h4 x rfl)
        show ([32] ++ kTo ++ [32] ++ x).length ≤ 16
        simp only [List.length_append, List.length_cons, List.length_nil]
        omega
    show (kCall ++ [32] ++ f ++ sLp ++ cjoin (es.map Ex.tx) ++ sRp ++ toTx t).length ≤ 320
    simp only [List.length_append, List.length_cons, List.length_nil]
    omega
  | ite _ _ _ => exact Nat.zero_le _
  | whil _ _ => exact Nat.zero_le _
def sp_simple_text (K : PySem.W.Frag) : Sp := fun vs H Q _ => ∃ (v : V) (s : Sm) (m : Nat), vs = [v] ∧ Dp K H v s.da ∧ s.ok m ∧ s.flat = true ∧ RetV (.str (mk s.simple)) H Q
theorem pu_simple_text {K : PySem.W.Frag} (vs : List V) (H : Hp) (Q : VK) (E : XK) (h : sp_simple_text K vs H Q E) :
    t_simple_text K (sp_expression_text K 4) (sp_condition_text K 3) { nx := fun _ H' => Q .non H', rt := Q } (start n_simple_text vs) H := by
  obtain ⟨v, s, m, rfl, hd, hk, hf, q⟩ := h
  delta t_simple_text
  cases s with
  | ite _ _ _ => cases hf
  | whil _ _ => cases hf
  | set x e =>
    obtain ⟨a, v1, v2, rfl, ht, hd1, hd2⟩ := dp_t3 hd
    cases dp_str hd1
    obtain ⟨h1, h2⟩ := sm_set hk
    have l1 := name_len h1
    have l2 := ex_len3 (by decide) h2
    walk_at "go"
    refine ⟨v2, e, 3, rfl, rfl, by omega, by walk_at "dp", h2, fun H1 e1 => ?_⟩
    walk_at "go"
    exact q _ e1
  | ask x =>
    obtain ⟨a, v1, rfl, ht, hd1⟩ := dp_t2 hd
    cases dp_str hd1
    have l1 := name_len (sm_ask hk)
    walk_at "go"
    exact q.at_
  | tell k e =>
    obtain ⟨a, v1, rfl, ht, hd1⟩ := dp_t2 hd
    have l1 := ex_len3 (by decide) (sm_tell hk)
    cases k <;> (
      dsimp only [tellRet] at ht
      walk_at "go"
      refine ⟨v1, e, 3, rfl, rfl, by omega, by walk_at "dp", sm_tell hk, fun H1 e1 => ?_⟩
      walk_at "go"
      exact q _ (by walk_at "sm"))
  | chk k c =>
    obtain ⟨a, v1, rfl, ht, hd1⟩ := dp_t2 hd
    have l1 := co_len2 (by decide) (sm_chk hk)
    cases k <;> (
      dsimp only [chkNeed] at ht
      walk_at "go"
      refine ⟨v1, c, 2, rfl, rfl, by omega, by walk_at "dp", sm_chk hk, fun H1 e1 => ?_⟩
      walk_at "go"
      exact q _ (by walk_at "sm"))
  | call f es t =>
    obtain ⟨a, v1, v2, v3, rfl, ht, hd1, hd2, hd3⟩ := dp_t4 hd
    cases dp_str hd1
    obtain ⟨p, ws, rfl, hp, hw⟩ := dp_tup hd2
    obtain ⟨h1, h2, h3, h4⟩ := sm_call hk
    have l1 := name_len h1
    have l2 := es_flat h3
    have l3 := cjoin_len (es.map Ex.tx)
    have l4 := dpall_len hw
    have l5 : (es.map Ex.tx).length = es.length := List.length_map _
    have l6 : (es.map Ex.da).length = es.length := List.length_map _
    walk_at "go"
    refine w_lcTv (sgV (es.map Ex.tx)) (fun Q q => by walk_at "go"; exact q) (by walk_at "tup") (by omega) (by rw [sgV_len]; omega) (fun _ => rfl) (fun i x z H2 hi hz e2 Q' q' => ?_) fun L H2 hL e2 h2' => ?_
    · obtain ⟨e, he, hde⟩ := dpall_map hw hi
      have hz' : z = .str (mk e.tx) := by
        unfold sgV at hz
        rw [List.getElem?_map, List.getElem?_map, he] at hz
        exact (Option.some.inj hz).symm
      subst hz'
      walk_at "go"
      refine ⟨x, e, 3, rfl, rfl, by omega, by walk_at "dp", ex_up (by decide) (h3 e (List.mem_of_getElem? he)), fun H3 e3 => q' _ e3⟩
    · refine w_joinC (Or.inl (SqL.of h2')) (by omega) ?_
      cases t with
      | none =>
        cases hd3
        walk_at "go"
        have e : [99, 97, 108, 108, 32] ++ f ++ [40] ++ cjoin (es.map Ex.tx) ++ [41] ++ [] = (Sm.call f es none).simple := rfl
        rw [e]
        exact q _ (by walk_at "sm")
      | some x =>
        cases dp_str hd3
        have l7 := name_len (h4 x rfl)
        walk_at "go"
        exact q _ (by walk_at "sm")
end Cc
namespace Cc
def lnB : Nat → Nat
  | 0 => 1
  | n + 1 => 3 + 6 * lnB n
theorem lnB_ge : ∀ n, 1 ≤ lnB n
  | 0 => Nat.le_refl _
  | n + 1 => by
    show 1 ≤ 3 + 6 * lnB n
    omega
theorem lnB3 {m : Nat} (h : m ≤ 3) : lnB m ≤ 345 := by
  rcases (by omega : m = 0 ∨ m = 1 ∨ m = 2 ∨ m = 3) with h | h | h | h <;> (subst h; decide)
theorem liness_le {B : Nat} : ∀ {b : List Sm} {ind : Tx}, (∀ s ∈ b, ∀ ind, (s.lines ind).length ≤ B) → (Sm.liness b ind).length ≤ B * b.length
  | [], _, _ => by simp only [Sm.liness]; exact Nat.zero_le _
  | s :: r, ind, h => by
    have h1 := h s List.mem_cons_self ind
    have h2 := liness_le (b := r) (ind := ind) fun z hz => h z (List.mem_cons_of_mem _ hz)
    simp only [Sm.liness, List.length_append, List.length_cons]
    rw [Nat.mul_succ]
    omega
theorem lines_len : ∀ (m : Nat) (s : Sm) (ind : Tx), s.ok m → (s.lines ind).length ≤ lnB m := by
  intro m
  induction m with
  | zero =>
    intro s ind h
    cases s with
    | ite _ _ _ => obtain ⟨j, hj, _⟩ := sm_ite h; cases hj
    | whil _ _ => obtain ⟨j, hj, _⟩ := sm_whil h; cases hj
    | _ => simp only [Sm.lines]; exact Nat.le_refl 1
  | succ m ih =>
    intro s ind h
    have g := lnB_ge (m + 1)
    cases s with
    | ite c a b =>
      obtain ⟨j, hj, _, h1, h2, h3, h4⟩ := sm_ite h
      cases hj
      have l1 := liness_le (b := a) (ind := ind ++ four) (B := lnB m) fun s hs ind => ih s ind (h3 s hs)
      have l2 := liness_le (b := b) (ind := ind ++ four) (B := lnB m) fun s hs ind => ih s ind (h4 s hs)
      have l3 : lnB m * a.length ≤ lnB m * 3 := Nat.mul_le_mul_left _ h1
      have l4 : lnB m * b.length ≤ lnB m * 3 := Nat.mul_le_mul_left _ h2
      simp only [Sm.lines]
      show _ ≤ 3 + 6 * lnB m
      split
      · simp only [List.length_append, List.length_cons, List.length_nil]
        omega
      · simp only [List.length_append, List.length_cons, List.length_nil]
        omega
    | whil c a =>
      obtain ⟨j, hj, _, h1, h3⟩ := sm_whil h
      cases hj
      have l1 := liness_le (b := a) (ind := ind ++ four) (B := lnB m) fun s hs ind => ih s ind (h3 s hs)
      have l3 : lnB m * a.length ≤ lnB m * 3 := Nat.mul_le_mul_left _ h1
      simp only [Sm.lines]
      show _ ≤ 3 + 6 * lnB m
      simp only [List.length_append, List.length_cons, List.length_nil]
      omega
    | _ => simp only [Sm.lines]; exact g
theorem liness_len {m : Nat} (hm : m ≤ 3) {b : List Sm} (h : ∀ s ∈ b, s.ok m) (hb : b.length ≤ 60) (ind : Tx) : (Sm.liness b ind).length ≤ 20700 := by
  have h1 := liness_le (b := b) (ind := ind) (B := lnB m) fun s hs ind => lines_len m s ind (h s hs)
  have h2 := Nat.mul_le_mul (lnB3 hm) hb
  omega
theorem das_map : ∀ b : List Sm, Sm.das b = b.map Sm.da
  | [] => rfl
  | s :: r => by simp only [Sm.das, List.map_cons, das_map r]
theorem liness_take (b : List Sm) (ind : Tx) : ∀ (i : Nat) (s : Sm), b[i]? = some s → Sm.liness (b.take (i + 1)) ind = Sm.liness (b.take i) ind ++ s.lines ind := by
  induction b with
  | nil => intro i s h; simp at h
  | cons x r ih =>
    intro i s h
    cases i with
    | zero =>
      simp at h
      subst h
      simp [Sm.liness]
    | succ i =>
      have h' : r[i]? = some s := by simpa using h
      rw [List.take_succ_cons, List.take_succ_cons]
      simp only [Sm.liness, ih i s h', List.append_assoc]
def sp_block_lines (K : PySem.W.Frag) (n : Nat) : Sp := fun vs H Q _ => ∃ (v : V) (ind : Tx) (b : List Sm) (m : Nat), vs = [v, .str (mk ind)] ∧ n = m + 1 ∧ m ≤ 3 ∧ Dp K H v (.tuple (Sm.das b)) ∧ (∀ s ∈ b, s.ok m) ∧ b.length ≤ 60 ∧ ind.length + 4 * m ≤ 40 ∧ RetL (Sm.liness b ind) H Q
def sp_statement_lines (K : PySem.W.Frag) (n : Nat) : Sp := fun vs H Q _ => ∃ (v : V) (ind : Tx) (s : Sm) (m : Nat), vs = [v, .str (mk ind)] ∧ n = m + 1 ∧ m ≤ 3 ∧ Dp K H v s.da ∧ s.ok m ∧ ind.length + 4 * m ≤ 40 ∧ RetL (s.lines ind) H Q
theorem pu_block_lines {K : PySem.W.Frag} {n : Nat} (vs : List V) (H : Hp) (Q : VK) (E : XK) (h : sp_block_lines K n vs H Q E) :
    t_block_lines K (sp_statement_lines K n) { nx := fun _ H' => Q .non H', rt := Q } (start n_block_lines vs) H := by
  obtain ⟨v, ind, b, m, rfl, hn, h3, hd, hk, hb, hi, q⟩ := h
  obtain ⟨a, ws, rfl, ht, hw⟩ := dp_tup hd
  rw [das_map] at hw
  have lw := dpall_len hw
  rw [List.length_map] at lw
  delta t_block_lines
  walk_at "go"
  rename_i p H1 hp e1 hl
  refine l_forT (fun Q q => by walk_at "go"; exact q) (by walk_at "tup") (fun i σ H' => ∃ w, σ = [some (.ref a), some (.str (mk ind)), some (.ref p), w] ∧ Same H H' ∧ H' p = some (.lst (sgV (Sm.liness (b.take i) ind)))) ⟨none, rfl, e1, hl⟩
    (fun i σ' H' ⟨w, _, e, _⟩ => same_sqt e ht) (fun i x σ' H' hx ⟨w, hσ, e, hl'⟩ => ?_) (fun σ' H' ⟨w, hσ, e, hl'⟩ => ?_)
  · subst hσ
    obtain ⟨s, hs, hds⟩ := dpall_map hw hx
    have ks := hk s (List.mem_of_getElem? hs)
    have l1 := lines_len m s ind ks
    have l2 := lnB3 h3
    have l3 := liness_len h3 (b := b.take i) (fun s hs => hk s (List.mem_of_mem_take hs)) (by rw [List.length_take]; omega) ind
    walk_at "go"
    refine ⟨x, ind, s, m, rfl, hn, h3, by walk_at "dp", ks, hi, fun r H2 hr e2 hl2 => ?_⟩
    have e3 : Same H H2 := e.trans e2
    walk_at "go"
    refine w_ext e3 hp (e2 _ _ hl') hl2 (by rw [sgV_len, sgV_len]; omega) fun H3 e4 hl3 => ?_
    refine ⟨some x, rfl, e4, ?_⟩
    rw [hl3, liness_take b ind i s hs, sgV_app]
  · subst hσ
    walk_at "go"
    rw [lw, List.take_length] at hl'
    exact q p H' hp e hl'
theorem das_nil {b : List Sm} (h : PyData.eqv (.tuple (Sm.das b)) (.tuple []) = true) : b = [] := by
  cases b with
  | nil => rfl
  | cons s r => simp [Sm.das, PyData.eqv, PyData.eqvAll] at h
end Cc
namespace Cc
open PySem PySem.Spec PyProof.Rows L2
/-! ### data that may be compared and shown -/
def txOk (x : Tx) : Bool := x.all fun c => decide (c < 128)
structure Gd (d : PyData) (n : Nat) : Prop where
  lay : d.canLay0 = true
  dep : d.depth ≤ n
  sh : d.showable = true
theorem Gd.up {d : PyData} {n m : Nat} (h : Gd d n) (le : n ≤ m) : Gd d m := ⟨h.lay, Nat.le_trans h.dep le, h.sh⟩
theorem Gd.shaped {d : PyData} {n : Nat} (h : Gd d n) (le : n ≤ 64) : SeqAt.shaped d = true := by
  unfold SeqAt.shaped
  rw [h.lay, decide_eq_true (Nat.le_trans h.dep le)] <;> rfl
theorem gd_str {x : Tx} (h : txOk x = true) : Gd (S x) 0 := by
  refine ⟨?_, Nat.le_refl _, rfl⟩
  show PyData.strOk (mk x) = true
  unfold PyData.strOk
  rw [Array.all_eq_true']
  intro c hc
  have hc' : c ∈ x := by simpa [mk] using hc
  have := List.all_eq_true.mp h c hc'
  simp only [decide_eq_true_eq] at this ⊢
  omega
theorem gd_int {i : Int} (h : -10000 ≤ i ∧ i ≤ 10000) : Gd (.int i) 0 := by
  refine ⟨rfl, Nat.le_refl _, ?_⟩
  show decide (i.natAbs.log2 < 1920) = true
  refine decide_eq_true ?_
  by_cases h0 : i.natAbs = 0
  · rw [h0]; decide
  · exact Nat.lt_of_lt_of_le ((Nat.log2_lt h0).mpr (by omega : i.natAbs < 2 ^ 20)) (by decide)
theorem gd_non : Gd .none 0 := ⟨rfl, Nat.le_refl _, rfl⟩
theorem gd_all {n : Nat} : ∀ {ds : List PyData}, (∀ d ∈ ds, Gd d n) → PyData.canLayAll0 ds = true ∧ PyData.depthAll ds ≤ n ∧ PyData.showableAll ds = true
  | [], _ => ⟨rfl, Nat.zero_le _, rfl⟩
  | d :: r, h => by
    have h1 := h d List.mem_cons_self
    obtain ⟨a, b, c⟩ := gd_all (ds := r) fun z hz => h z (List.mem_cons_of_mem _ hz)
    refine ⟨?_, ?_, ?_⟩
    · simp only [PyData.canLayAll0, h1.lay, a, Bool.and_self]
    · simp only [PyData.depthAll]
      have := h1.dep
      omega
    · simp only [PyData.showableAll, h1.sh, c, Bool.and_self]
theorem gd_tup {n : Nat} {ds : List PyData} (h : ∀ d ∈ ds, Gd d n) : Gd (.tuple ds) (n + 1) := by
  obtain ⟨a, b, c⟩ := gd_all h
  refine ⟨?_, ?_, ?_⟩
  · simp only [PyData.canLay0, a]
  · simp only [PyData.depth]
    omega
  · simp only [PyData.showable, c]
theorem gd2 {a b : PyData} {n : Nat} (ha : Gd a n) (hb : Gd b n) : Gd (.tuple [a, b]) (n + 1) := gd_tup fun d hd => by
  simp only [List.mem_cons, List.not_mem_nil, or_false] at hd
  rcases hd with rfl | rfl <;> assumption
theorem gd3 {a b c : PyData} {n : Nat} (ha : Gd a n) (hb : Gd b n) (hc : Gd c n) : Gd (.tuple [a, b, c]) (n + 1) := gd_tup fun d hd => by
  simp only [List.mem_cons, List.not_mem_nil, or_false] at hd
  rcases hd with rfl | rfl | rfl <;> assumption
theorem gd4 {a b c e : PyData} {n : Nat} (ha : Gd a n) (hb : Gd b n) (hc : Gd c n) (he : Gd e n) : Gd (.tuple [a, b, c, e]) (n + 1) := gd_tup fun d hd => by
  simp only [List.mem_cons, List.not_mem_nil, or_false] at hd
  rcases hd with rfl | rfl | rfl | rfl <;> assumption
theorem isWc_lt {c : Nat} (h : isWc c = true) : c < 128 := by
  unfold isWc isLet isDig at h
  simp only [Bool.or_eq_true, Bool.and_eq_true, decide_eq_true_eq, beq_iff_eq] at h
  omega
theorem name_txOk {x : Tx} (h : nameOk x = true) : txOk x = true := by
  unfold nameOk wordOk at h
  simp only [Bool.and_eq_true, decide_eq_true_eq] at h
  refine List.all_eq_true.mpr fun c hc => decide_eq_true (isWc_lt (List.all_eq_true.mp h.1.1.2 c hc))
theorem gd_ex : ∀ (n : Nat) (e : Ex), e.ok n → Gd e.da (n + 1)
  | n, .num i, h => gd2 ((gd_str (x := [110, 117, 109, 98, 101, 114]) (by decide)).up (Nat.zero_le _)) ((gd_int (ex_num h)).up (Nat.zero_le _))
  | n, .name x, h => gd2 ((gd_str (x := [110, 97, 109, 101]) (by decide)).up (Nat.zero_le _)) ((gd_str (name_txOk (ex_nam h))).up (Nat.zero_le _))
  | 0, .op _ _ _, h => h.elim
  | n + 1, .op g l r, h => gd4 ((gd_str (x := [111, 112]) (by decide)).up (Nat.zero_le _)) ((gd_str (by cases g <;> decide)).up (Nat.zero_le _)) (gd_ex n l h.1) (gd_ex n r h.2)
theorem gd_co : ∀ (n : Nat) (c : Co), c.ok n → Gd c.da (n + 3)
  | n, .cmp g a b, h => gd4 ((gd_str (x := [99, 111, 109, 112, 97, 114, 101]) (by decide)).up (Nat.zero_le _)) ((gd_str (by cases g <;> decide)).up (Nat.zero_le _)) ((gd_ex 1 a (co_cmp h).1).up (by omega)) ((gd_ex 1 b (co_cmp h).2).up (by omega))
  | 0, .not _, h => h.elim
  | n + 1, .not c, h => gd2 ((gd_str (by decide)).up (Nat.zero_le _)) (gd_co n c h)
  | 0, .bin _ _ _, h => h.elim
  | n + 1, .bin k a b, h => gd3 ((gd_str (by cases k <;> decide)).up (Nat.zero_le _)) (gd_co n a h.1) (gd_co n b h.2)
theorem gd_sm : ∀ (n : Nat) (s : Sm), s.ok n → Gd s.da (2 * n + 6) := by
  intro n
  induction n with
  | zero =>
    intro s h
    cases s with
    | set x e => exact gd3 ((gd_str (by decide)).up (Nat.zero_le _)) ((gd_str (name_txOk (sm_set h).1)).up (Nat.zero_le _)) ((gd_ex 3 e (sm_set h).2).up (by omega))
    | ask x => exact gd2 ((gd_str (by decide)).up (Nat.zero_le _)) ((gd_str (name_txOk (sm_ask h))).up (Nat.zero_le _))
    | tell k e => exact gd2 ((gd_str (by cases k <;> decide)).up (Nat.zero_le _)) ((gd_ex 3 e (sm_tell h)).up (by omega))
    | chk k c => exact gd2 ((gd_str (by cases k <;> decide)).up (Nat.zero_le _)) ((gd_co 2 c (sm_chk h)).up (by omega))
    | call f es t =>
      obtain ⟨h1, h2, h3, h4⟩ := sm_call h
      exact gd4 ((gd_str (by decide)).up (Nat.zero_le _)) ((gd_str (name_txOk h1)).up (Nat.zero_le _)) ((gd_tup (n := 2) fun d hd => by
        obtain ⟨e, he, rfl⟩ := List.mem_map.mp hd
        exact gd_ex 1 e (h3 e he)).up (by omega)) (by
        cases t with
        | none => exact gd_non.up (Nat.zero_le _)
        | some x => exact (gd_str (name_txOk (h4 x rfl))).up (Nat.zero_le _))
    | ite _ _ _ => obtain ⟨j, hj, _⟩ := sm_ite h; cases hj
    | whil _ _ => obtain ⟨j, hj, _⟩ := sm_whil h; cases hj
  | succ n ih =>
    intro s h
    have blk : ∀ b : List Sm, (∀ s ∈ b, Sm.ok n s) → Gd (.tuple (Sm.das b)) (2 * n + 7) := fun b hb => by
      rw [das_map]
      exact gd_tup fun d hd => by
        obtain ⟨s, hs, rfl⟩ := List.mem_map.mp hd
        exact ih s (hb s hs)
    cases s with
    | set x e => exact (gd3 (n := 5) ((gd_str (by decide)).up (Nat.zero_le _)) ((gd_str (name_txOk (sm_set h).1)).up (Nat.zero_le _)) ((gd_ex 3 e (sm_set h).2).up (by omega))).up (by omega)
    | ask x => exact (gd2 (n := 5) ((gd_str (by decide)).up (Nat.zero_le _)) ((gd_str (name_txOk (sm_ask h))).up (Nat.zero_le _))).up (by omega)
    | tell k e => exact (gd2 (n := 5) ((gd_str (by cases k <;> decide)).up (Nat.zero_le _)) ((gd_ex 3 e (sm_tell h)).up (by omega))).up (by omega)
    | chk k c => exact (gd2 (n := 5) ((gd_str (by cases k <;> decide)).up (Nat.zero_le _)) ((gd_co 2 c (sm_chk h)).up (by omega))).up (by omega)
    | call f es t =>
      obtain ⟨h1, h2, h3, h4⟩ := sm_call h
      exact (gd4 (n := 5) ((gd_str (by decide)).up (Nat.zero_le _)) ((gd_str (name_txOk h1)).up (Nat.zero_le _)) ((gd_tup (n := 2) fun d hd => by
        obtain ⟨e, he, rfl⟩ := List.mem_map.mp hd
        exact gd_ex 1 e (h3 e he)).up (by omega)) (by
        cases t with
        | none => exact gd_non.up (Nat.zero_le _)
        | some x => exact (gd_str (name_txOk (h4 x rfl))).up (Nat.zero_le _))).up (by omega)
    | ite c a b =>
      obtain ⟨j, hj, hc, _, _, h3, h4⟩ := sm_ite h
      cases hj
      exact gd4 (n := 2 * n + 7) ((gd_str (by decide)).up (Nat.zero_le _)) ((gd_co 2 c hc).up (by omega)) (blk a h3) (blk b h4)
    | whil c a =>
      obtain ⟨j, hj, hc, _, h3⟩ := sm_whil h
      cases hj
      exact gd3 (n := 2 * n + 7) ((gd_str (by decide)).up (Nat.zero_le _)) ((gd_co 2 c hc).up (by omega)) (blk a h3)
theorem gd_blk {n : Nat} {b : List Sm} (h : ∀ s ∈ b, Sm.ok n s) : Gd (.tuple (Sm.das b)) (2 * n + 7) := by
  rw [das_map]
  exact gd_tup fun d hd => by
    obtain ⟨s, hs, rfl⟩ := List.mem_map.mp hd
    exact gd_sm n s (h s hs)
theorem das_eqv {b : List Sm} : PyData.eqv (.tuple (Sm.das b)) (.tuple []) = b.isEmpty := by
  cases b with
  | nil => rfl
  | cons s r => simp [Sm.das, PyData.eqv, PyData.eqvAll]
theorem w_neD {K : PySem.W.Frag} {H : Hp} {Q : VK} {x y : V} {d e : PyData} (h1 : Dp K H x d) (h2 : Dp K H y e) (h3 : SeqAt.shaped d = true) (h4 : SeqAt.shaped e = true) (q : Q (.bl (!PyData.eqv d e)) H) : rNeD K x y H Q := ⟨d, e, h1, h2, h3, h4, q⟩
end Cc
namespace Cc
theorem pu_statement_lines {K : PySem.W.Frag} {n : Nat} (vs : List V) (H : Hp) (Q : VK) (E : XK) (h : sp_statement_lines K (n + 1) vs H Q E) :
    t_statement_lines K (sp_condition_text K 3) (sp_block_lines K n) (sp_simple_text K) { nx := fun _ H' => Q .non H', rt := Q } (start n_statement_lines vs) H := by
  obtain ⟨v, ind, s, m, rfl, hn, h3, hd, hk, hi, q⟩ := h
  have hn' : n = m := by omega
  subst hn'
  have simple : s.flat = true → (∃ a tag tl, v = .ref a ∧ SqT K H a (.str (mk tag) :: tl) ∧ tag ≠ kIf ∧ tag ≠ kWhile) → s.lines ind = [ind ++ s.simple ++ [59]] →
      t_statement_lines K (sp_condition_text K 3) (sp_block_lines K n) (sp_simple_text K) { nx := fun _ H' => Q .non H', rt := Q } (start n_statement_lines [v, .str (mk ind)]) H := fun hf ⟨a, tag, tl, hv, ht, h1, h2⟩ hl => by
    subst hv
    have sl := simple_len hk
    delta t_statement_lines
    walk_at "go"
    refine w_f (decide_eq_false h1) ?_
    walk_at "go"
    refine w_f (decide_eq_false h2) ?_
    walk_at "go"
    refine ⟨.ref a, s, n, rfl, by walk_at "dp", hk, hf, fun H1 e1 => ?_⟩
    walk_at "go"
    rename_i p H2 hp e2 hl2
    refine q p H2 (by walk_at "fr") (by walk_at "sm") ?_
    rw [hl, hl2] <;> rfl
  cases s with
  | set x e =>
    obtain ⟨a, v1, v2, rfl, ht, _⟩ := dp_t3 hd
    exact simple rfl ⟨a, _, _, rfl, ht, by decide, by decide⟩ (by simp only [Sm.lines])
  | ask x =>
    obtain ⟨a, v1, rfl, ht, _⟩ := dp_t2 hd
    exact simple rfl ⟨a, _, _, rfl, ht, by decide, by decide⟩ (by simp only [Sm.lines])
  | tell k e =>
    obtain ⟨a, v1, rfl, ht, _⟩ := dp_t2 hd
    exact simple rfl ⟨a, _, _, rfl, ht, by cases k <;> decide, by cases k <;> decide⟩ (by simp only [Sm.lines])
  | chk k c =>
    obtain ⟨a, v1, rfl, ht, _⟩ := dp_t2 hd
    exact simple rfl ⟨a, _, _, rfl, ht, by cases k <;> decide, by cases k <;> decide⟩ (by simp only [Sm.lines])
  | call f es t =>
    obtain ⟨a, v1, v2, v3, rfl, ht, _⟩ := dp_t4 hd
    exact simple rfl ⟨a, _, _, rfl, ht, by decide, by decide⟩ (by simp only [Sm.lines])
  | whil c b =>
    obtain ⟨j, rfl, hc, l1, kb⟩ := sm_whil hk
    obtain ⟨a, v1, v2, rfl, ht, hd1, hd2⟩ := dp_t3 hd
    have sc := co_len2 (by decide) hc
    have lb := liness_len (m := j) (by omega) kb (by omega) (ind ++ four)
    delta t_statement_lines
    walk_at "go"
    refine ⟨v1, c, 2, rfl, rfl, by omega, by walk_at "dp", hc, fun H1 e1 => ?_⟩
    walk_at "go"
    refine ⟨v2, ind ++ four, b, j, rfl, rfl, by omega, by walk_at "dp", kb, by omega, by walk_at "szi", fun r H2 hr e2 hl2 => ?_⟩
    walk_at "go"
    refine' w_ext (H0 := H) ?e ?f ?h ?g ?n ?q
    case e => walk_at "sm"
    case f => walk_at "fr"
    case h => walk_at "at"
    case g => walk_at "at"
    case n => walk_at "sz"
    case q =>
      intro H3 e3 hl3
      walk_at "go"
      rename_i p H5 hp e5 hl5
      refine q p H5 (by walk_at "fr") (by walk_at "sm") ?_
      rw [hl5]
      simp only [Sm.lines, sgV_app]
      simp [sgV]
  | ite c b b2 =>
    obtain ⟨j, rfl, hc, l1, l2, kb, kb2⟩ := sm_ite hk
    obtain ⟨a, v1, v2, v3, rfl, ht, hd1, hd2, hd3⟩ := dp_t4 hd
    have sc := co_len2 (by decide) hc
    have lb := liness_len (m := j) (by omega) kb (by omega) (ind ++ four)
    have lb2 := liness_len (m := j) (by omega) kb2 (by omega) (ind ++ four)
    delta t_statement_lines
    walk_at "go"
    refine ⟨v1, c, 2, rfl, rfl, by omega, by walk_at "dp", hc, fun H1 e1 => ?_⟩
    walk_at "go"
    refine ⟨v2, ind ++ four, b, j, rfl, rfl, by omega, by walk_at "dp", kb, by omega, by walk_at "szi", fun r H2 hr e2 hl2 => ?_⟩
    walk_at "go"
    refine' w_ext (H0 := H) ?e ?f ?h ?g ?n ?q
    case e => walk_at "sm"
    case f => walk_at "fr"
    case h => walk_at "at"
    case g => walk_at "at"
    case n => walk_at "sz"
    case q =>
      intro H3 e3 hl3
      walk_at "go"
      rename_i p0 H4 hp0 e4 ht4
      refine w_neD (d := .tuple (Sm.das b2)) (e := .tuple []) (by walk_at "dp") (.tup (by walk_at "tup") .nil) ((gd_blk kb2).shaped (by omega)) rfl ?_
      rw [das_eqv]
      cases b2 with
      | nil =>
        walk_at "go"
        rename_i p H5 hp e5 hl5
        refine q p H5 (by walk_at "fr") (by walk_at "sm") ?_
        rw [hl5]
        simp [Sm.lines, sgV]
      | cons s0 r0 =>
        walk_at "go"
        refine' w_app (H0 := H) ?e ?f ?h ?n ?q
        case e => walk_at "sm"
        case f => walk_at "fr"
        case h => walk_at "at"
        case n => walk_at "sz"
        case q =>
          intro H5 e5 hl5
          walk_at "go"
          refine ⟨v3, ind ++ four, s0 :: r0, j, rfl, rfl, by omega, by walk_at "dp", kb2, by omega, by walk_at "szi", fun r H6 hr e6 hl6 => ?_⟩
          walk_at "go"
          refine' w_ext (H0 := H) ?e ?f ?h ?g ?n ?q
          case e => walk_at "sm"
          case f => walk_at "fr"
          case h => walk_at "at"
          case g => walk_at "at"
          case n => walk_at "sz"
          case q =>
            intro H7 e7 hl7
            walk_at "go"
            rename_i p H8 hp e8 hl8
            refine q p H8 (by walk_at "fr") (by walk_at "sm") ?_
            rw [hl8]
            simp [Sm.lines, sgV]
end Cc
namespace Cc
/-! ### sizes of a whole text -/
theorem commas_len : ∀ ls : List (List Tk), (commas ls).length ≥ (ls.map List.length).sum
  | [] => Nat.le_refl _
  | [x] => by simp [commas]
  | x :: y :: r => by
    have h := commas_len (y :: r)
    show (x ++ .s sCm :: commas (y :: r)).length ≥ _
    rw [List.length_append, List.length_cons, List.map_cons, List.sum_cons]
    omega
mutual
theorem lines_tk : ∀ (s : Sm) (ind : Tx), (s.lines ind).length ≤ s.tk.length
  | .set x e, ind => by simp only [Sm.lines, Sm.tk, List.length_cons, List.length_nil]; omega
  | .ask x, ind => by simp only [Sm.lines, Sm.tk, List.length_cons, List.length_nil]; omega
  | .tell k e, ind => by simp only [Sm.lines, Sm.tk, List.length_cons, List.length_nil]; omega
  | .chk k c, ind => by simp only [Sm.lines, Sm.tk, List.length_cons, List.length_nil]; omega
  | .call f es t, ind => by simp only [Sm.lines, Sm.tk, List.length_cons, List.length_nil]; omega
  | .ite c a b, ind => by
    have h1 := liness_tk a (ind ++ four)
    have h2 := liness_tk b (ind ++ four)
    simp only [Sm.lines, Sm.tk]
    split <;> (simp only [List.length_cons, List.length_append, List.length_nil]; omega)
  | .whil c a, ind => by
    have h1 := liness_tk a (ind ++ four)
    simp only [Sm.lines, Sm.tk, List.length_cons, List.length_append, List.length_nil]
    omega
theorem liness_tk : ∀ (b : List Sm) (ind : Tx), (Sm.liness b ind).length ≤ (Sm.tks b).length
  | [], _ => by simp only [Sm.liness]; exact Nat.zero_le _
  | s :: r, ind => by
    have h1 := lines_tk s ind
    have h2 := liness_tk r ind
    simp only [Sm.liness, Sm.tks, List.length_append]
    omega
end
theorem line_len : ∀ (m : Nat) (s : Sm) (ind : Tx), s.ok m → ∀ l ∈ s.lines ind, l.length ≤ ind.length + 4 * m + 330 := by
  intro m
  induction m with
  | zero =>
    intro s ind h l hl
    have sl := simple_len h
    cases s with
    | ite _ _ _ => obtain ⟨j, hj, _⟩ := sm_ite h; cases hj
    | whil _ _ => obtain ⟨j, hj, _⟩ := sm_whil h; cases hj
    | _ =>
      simp only [Sm.lines, List.mem_cons, List.not_mem_nil, or_false] at hl
      subst hl
      simp only [List.length_append, List.length_cons, List.length_nil]
      omega
  | succ m ih =>
    intro s ind h l hl
    have sl := simple_len h
    have blk : ∀ (b : List Sm), (∀ s ∈ b, s.ok m) → l ∈ Sm.liness b (ind ++ four) → l.length ≤ ind.length + 4 * (m + 1) + 330 := by
      intro b
      induction b with
      | nil => intro _ h; simp [Sm.liness] at h
      | cons s r ihb =>
        intro hb hl
        simp only [Sm.liness, List.mem_append] at hl
        rcases hl with hl | hl
        · have := ih s (ind ++ four) (hb s List.mem_cons_self) l hl
          simp only [four, List.length_append, List.length_cons, List.length_nil] at this
          omega
        · exact ihb (fun s hs => hb s (List.mem_cons_of_mem _ hs)) hl
    cases s with
    | ite c a b =>
      obtain ⟨j, hj, hc, _, _, h3, h4⟩ := sm_ite h
      cases hj
      have sc := co_len2 (by decide) hc
      simp only [Sm.lines, List.mem_cons, List.mem_append, List.not_mem_nil, or_false] at hl
      rcases hl with hl | hl | hl | hl
      · subst hl
        simp only [List.length_append, List.length_cons, List.length_nil]
        omega
      · exact blk a h3 hl
      · split at hl
        · simp at hl
        · simp only [List.mem_cons] at hl
          rcases hl with hl | hl
          · subst hl
            simp only [List.length_append, List.length_cons, List.length_nil]
            omega
          · exact blk b h4 hl
      · subst hl
        simp only [List.length_append, List.length_cons, List.length_nil]
        omega
    | whil c a =>
      obtain ⟨j, hj, hc, _, h3⟩ := sm_whil h
      cases hj
      have sc := co_len2 (by decide) hc
      simp only [Sm.lines, List.mem_cons, List.mem_append, List.not_mem_nil, or_false] at hl
      rcases hl with hl | hl | hl
      · subst hl
        simp only [List.length_append, List.length_cons, List.length_nil]
        omega
      · exact blk a h3 hl
      · subst hl
        simp only [List.length_append, List.length_cons, List.length_nil]
        omega
    | _ =>
      simp only [Sm.lines, List.mem_cons, List.not_mem_nil, or_false] at hl
      subst hl
      simp only [List.length_append, List.length_cons, List.length_nil]
      omega
theorem liness_mem {m : Nat} {b : List Sm} {ind l : Tx} (h : ∀ s ∈ b, s.ok m) (hl : l ∈ Sm.liness b ind) : l.length ≤ ind.length + 4 * m + 330 := by
  induction b with
  | nil => simp [Sm.liness] at hl
  | cons s r ih =>
    simp only [Sm.liness, List.mem_append] at hl
    rcases hl with hl | hl
    · exact line_len m s ind (h s List.mem_cons_self) l hl
    · exact ih (fun s hs => h s (List.mem_cons_of_mem _ hs)) hl
theorem names_flat {ps : List Tx} (h : ∀ x ∈ ps, nameOk x = true) : ps.flatten.length ≤ 12 * ps.length := flat_len fun x hx => name_len (h x hx)
theorem pr_line {p : Pr} (h : p.ok) : ∀ l ∈ p.lines, l.length ≤ 360 := by
  obtain ⟨h1, h2, h3, h4, h5⟩ := h
  intro l hl
  simp only [Pr.lines, List.mem_cons, List.mem_append, List.not_mem_nil, or_false] at hl
  rcases hl with hl | hl | hl
  · subst hl
    have a1 := name_len h1
    have a2 := names_flat h3
    have a3 := cjoin_len p.ps
    simp only [List.length_append, List.length_cons, List.length_nil]
    omega
  · have := liness_mem h5 hl
    simp only [four, List.length_cons, List.length_nil] at this
    omega
  · subst hl
    decide
theorem pr_lines_tk (p : Pr) : p.lines.length ≤ p.tk.length := by
  have := liness_tk p.body four
  simp only [Pr.lines, Pr.tk, List.length_cons, List.length_append, List.length_nil]
  omega
theorem prs_lines_tk : ∀ ps : List Pr, (ps.flatMap Pr.lines).length ≤ (prsTk ps).length
  | [] => Nat.le_refl _
  | p :: r => by
    have h1 := pr_lines_tk p
    have h2 := prs_lines_tk r
    simp only [List.flatMap_cons, prsTk, List.length_append]
    omega
theorem gs_tk_len : ∀ gs : List Tx, (gsTk gs).length = 3 * gs.length
  | [] => rfl
  | x :: r => by
    simp only [gsTk, List.length_cons, gs_tk_len r]
    omega
def glines (gs : List Tx) : List Tx := gs.map fun x => kGlobal ++ [32] ++ x ++ [59]
theorem pg_lines_tk (p : Pg) : p.lines.length ≤ p.tk.length := by
  have h1 := prs_lines_tk p.prs
  have h2 := gs_tk_len p.gs
  simp only [Pg.lines, Pg.tk, List.length_append, List.length_map]
  omega
theorem pg_line {p : Pg} (h : p.ok) : ∀ l ∈ p.lines, l.length ≤ 360 := by
  obtain ⟨h1, h2, h3, h4⟩ := h
  intro l hl
  simp only [Pg.lines, List.mem_append, List.mem_map, List.mem_flatMap] at hl
  rcases hl with ⟨x, hx, rfl⟩ | ⟨q, hq, hl⟩
  · have := name_len (h2 x hx)
    simp only [List.length_append, List.length_cons, List.length_nil]
    omega
  · exact pr_line (h4 q hq) l hl
theorem unlines_eq (ls : List Tx) : unlines ls = (ls.map fun l => l ++ [10]).flatten := by
  unfold unlines
  rw [List.flatMap_def]
theorem pg_tx_len {p : Pg} (h : p.ok) (ht : p.tk.length ≤ 1000) : (p.lines.map fun l => l ++ [10]).flatten.length ≤ 361000 := by
  have h1 := flat_len (B := 361) (ls := p.lines.map fun l => l ++ [10]) fun l hl => by
    obtain ⟨x, hx, rfl⟩ := List.mem_map.mp hl
    have := pg_line h x hx
    simp only [List.length_append, List.length_cons, List.length_nil]
    omega
  rw [List.length_map] at h1
  have h2 := pg_lines_tk p
  exact Nat.le_trans h1 (by omega)
/-! ### f-strings -/
section
variable {K : PySem.W.Frag} {σ : L2.St} {H : Hp} {Q : VK} {te : TE} {ts : List TE}
theorem w_join (h : tJs ts (mk []) σ H fun out H1 => Q (.str out) H1) : tJoin ts σ H Q := h
theorem w_jcons {a : Tx} {P : Str → Hp → Prop} (h : te σ H fun x H1 => ∃ y : Str, x = .str y ∧ (mk a ++ y).length ≤ sizeLine ∧ tJs ts (mk a ++ y) σ H1 P) : tJs (te :: ts) (mk a) σ H P := h
theorem w_jone {a b : Tx} {P : Str → Hp → Prop} (n : a.length + b.length ≤ 16777216) (q : tJs ts (mk (a ++ b)) σ H P) : ∃ y : Str, V.str (mk b) = .str y ∧ (mk a ++ y).length ≤ sizeLine ∧ tJs ts (mk a ++ y) σ H P :=
  ⟨mk b, rfl, by rw [mk_app, mk_len, List.length_append]; exact n, by rw [mk_app]; exact q⟩
theorem w_jnil {a : Str} {P : Str → Hp → Prop} (q : P a H) : tJs [] a σ H P := q
def FmtR (x : V) (H : Hp) (Q : VK) : Prop := (∃ y : Str, x = .str y ∧ y.length ≤ sizeLine ∧ Q (.str y) H) ∨ ∃ i : Int, x = .int i ∧ i.natAbs.log2 < 1920 ∧ Q (.str (toString i)) H
theorem w_fmt (h : te σ H fun x H1 => FmtR x H1 Q) : tFmt te σ H Q := h
theorem w_fmtS {b : Tx} (n : b.length ≤ 16777216) (q : Q (.str (mk b)) H) : FmtR (.str (mk b)) H Q := .inl ⟨mk b, rfl, by rw [mk_len]; exact n, q⟩
end
/-! ### the writer -/
def sp_write (K : PySem.W.Frag) : Sp := fun vs H Q _ => ∃ (v : V) (p : Pg), vs = [v] ∧ Dp K H v p.da ∧ p.ok ∧ p.tk.length ≤ 1000 ∧ RetV (.str (mk p.tx)) H Q
theorem dp_pg {K : PySem.W.Frag} {H : Hp} {v : V} {p : Pg} (h : Dp K H v p.da) : ∃ a b c us ws, v = .ref a ∧ SqT K H a [.ref b, .ref c] ∧ SqT K H b us ∧ SqT K H c ws ∧ DpAll K H us (p.gs.map S) ∧ DpAll K H ws (p.prs.map Pr.da) := by
  obtain ⟨a, vs, rfl, h1, h2⟩ := dp_tup h
  cases h2 with | cons a1 r1 => cases r1 with | cons a2 r2 =>
    cases r2
    obtain ⟨b, us, rfl, h3, h4⟩ := dp_tup a1
    obtain ⟨c, ws, rfl, h5, h6⟩ := dp_tup a2
    exact ⟨a, b, c, us, ws, rfl, h1, h3, h5, h4, h6⟩
theorem dp_pr {K : PySem.W.Frag} {H : Hp} {v : V} {p : Pr} (h : Dp K H v p.da) : ∃ a b c us ws, v = .ref a ∧ SqT K H a [.str (mk p.name), .ref b, .ref c] ∧ SqT K H b us ∧ SqT K H c ws ∧ DpAll K H us (p.ps.map S) ∧ DpAll K H ws (Sm.das p.body) := by
  obtain ⟨a, v1, v2, rfl, h1, h2, h3⟩ := dp_t3 (show Dp K H v (.tuple [S p.name, .tuple (p.ps.map S), .tuple (Sm.das p.body)]) from h)
  obtain ⟨b, us, rfl, h3', h4⟩ := dp_tup h2
  obtain ⟨c, ws, rfl, h5, h6⟩ := dp_tup h3
  exact ⟨a, b, c, us, ws, rfl, h1, h3', h5, h4, h6⟩
theorem dp_names {K : PySem.W.Frag} {H : Hp} : ∀ {us : List V} {l : List Tx}, DpAll K H us (l.map S) → us = sgV l
  | _, [], h => by cases h; rfl
  | _, x :: r, h => by
    cases h with | cons a b =>
      cases dp_str a
      rw [dp_names b]
      rfl
theorem flatMap_take {α : Type} {f : α → List Tx} : ∀ {l : List α} {i : Nat} {x : α}, l[i]? = some x → (l.take (i + 1)).flatMap f = (l.take i).flatMap f ++ f x
  | [], i, x, h => by simp at h
  | a :: r, 0, x, h => by
    simp at h
    subst h
    simp
  | a :: r, i + 1, x, h => by
    have h' : r[i]? = some x := by simpa using h
    rw [List.take_succ_cons, List.take_succ_cons, List.flatMap_cons, List.flatMap_cons, flatMap_take h', List.append_assoc]
theorem pu_write {K : PySem.W.Frag} (vs : List V) (H : Hp) (Q : VK) (E : XK) (h : sp_write K vs H Q E) :
    t_write K (sp_block_lines K 4) { nx := fun _ H' => Q .non H', rt := Q } (start n_write vs) H := by
  obtain ⟨v, p, rfl, hd, hk, hn, q⟩ := h
  obtain ⟨a, b, c, us, ws, rfl, ha, hb, hc, hus, hws⟩ := dp_pg hd
  have eu := dp_names hus
  subst eu
  have lw := dpall_len hws
  rw [List.length_map] at lw
  have kall := hk
  obtain ⟨k1, k2, k3, k4⟩ := hk
  have tl := pg_lines_tk p
  have tx := pg_tx_len kall hn
  delta t_write
  walk_at "go"
  refine ⟨_, _, rfl, ha, rfl, _, _, rfl, _, _, rfl, rfl, ?_⟩
  walk_at "go"
  refine w_lcTv (sgV (glines p.gs)) (fun Q q => by walk_at "go"; exact q) hb (by rw [sgV_len]; omega) (by rw [sgV_len, sgV_len]; unfold glines; rw [List.length_map]) (fun _ => rfl) (fun i x z H2 hi hz e2 Q' q' => ?_) fun L H1 hL e1 hl1 => ?_
  · unfold sgV at hi
    unfold sgV glines at hz
    rw [List.getElem?_map] at hi hz
    rw [List.getElem?_map] at hz
    cases hg : p.gs[i]? with
    | none => rw [hg] at hi; cases hi
    | some g =>
      rw [hg] at hi hz
      cases hi
      cases hz
      have := name_len (k2 g (List.mem_of_getElem? hg))
      refine w_join (w_jcons ?_)
      walk_at "go"
      refine w_jone (by walk_at "sz") (w_jcons (w_fmt ?_))
      walk_at "go"
      refine w_fmtS (by omega) ?_
      refine w_jone (by walk_at "sz") (w_jcons ?_)
      walk_at "go"
      refine w_jone (by walk_at "sz") (w_jnil ?_)
      exact q' _ (Same.refl _)
  · refine l_forTg (fun Q q => by walk_at "go"; exact q) (by walk_at "tup") (fun i σ H' => ∃ w3 w5 w6, σ = [some (.ref a), some (.ref b), some (.ref c), w3, some (.ref L), w5, w6, none] ∧ Same H H' ∧ H' L = some (.lst (sgV (glines p.gs ++ (p.prs.take i).flatMap Pr.lines))))
      ⟨none, none, none, rfl, e1, by rw [hl1]; simp⟩ (fun i σ' H' ⟨_, _, _, _, e, _⟩ => same_sqt e hc) (fun i x σ' H' hx ⟨w3, w5, w6, hσ, e, hl'⟩ => ?_) (fun σ' H' ⟨w3, w5, w6, hσ, e, hl'⟩ => ?_)
    · subst hσ
      obtain ⟨r, hr, hdr⟩ := dpall_map hws hx
      obtain ⟨ra, rb, rc, rus, rws, rfl, hra, hrb, hrc, hrus, hrws⟩ := dp_pr hdr
      have eu := dp_names hrus
      subst eu
      have kr := k4 r (List.mem_of_getElem? hr)
      have krr := kr
      obtain ⟨m1, m2, m3, m4, m5⟩ := kr
      have n1 := name_len m1
      have n2 := names_flat m3
      have n3 := cjoin_len r.ps
      have n4 := liness_len (by decide) m5 (by omega) four
      have n5 : (glines p.gs ++ (p.prs.take i).flatMap Pr.lines).length ≤ 1000 := by
        have h1 := prs_lines_tk (p.prs.take i)
        have h2 : ((p.prs.take i).flatMap Pr.lines).length ≤ (p.prs.flatMap Pr.lines).length := by
          conv => rhs; rw [← List.take_append_drop i p.prs, List.flatMap_append]
          rw [List.length_append]
          omega
        simp only [Pg.lines, List.length_append, List.length_map] at tl
        rw [List.length_append]
        unfold glines
        rw [List.length_map]
        omega
      refine ⟨_, _, rfl, same_sqt e hra, rfl, _, _, rfl, _, _, rfl, _, _, rfl, rfl, ?_⟩
      walk_at "go"
      refine w_joinC (Or.inr (by walk_at "tup")) (by omega) ?_
      walk_at "go"
      refine' w_app (H0 := H) ?e ?f ?h ?n ?q
      case e => walk_at "sm"
      case f => walk_at "fr"
      case h => walk_at "at"
      case n => simp only [List.length_append, List.length_cons, List.length_nil, sgV_len] at n5 ⊢; omega
      case q =>
        intro H2 e2 hl2
        walk_at "go"
        refine ⟨.ref rc, four, r.body, 3, rfl, rfl, by omega, .tup (by walk_at "tup") (dp_keepAll (fun _ _ z => same_sqt e2 z) _ _ (das_plain _) hrws), m5, by omega, by decide, fun z H3 hz e3 hl3 => ?_⟩
        walk_at "go"
        refine' w_ext (H0 := H) ?e ?f ?h ?g ?n ?q
        case e => walk_at "sm"
        case f => walk_at "fr"
        case h => walk_at "at"
        case g => walk_at "at"
        case n => simp only [List.length_append, List.length_cons, List.length_nil, sgV_len] at n5 ⊢; omega
        case q =>
          intro H4 e4 hl4
          walk_at "go"
          refine' w_app (H0 := H) ?e ?f ?h ?n ?q
          case e => walk_at "sm"
          case f => walk_at "fr"
          case h => walk_at "at"
          case n => simp only [List.length_append, List.length_cons, List.length_nil, sgV_len] at n5 ⊢; omega
          case q =>
            intro H5 e5 hl5
            refine ⟨_, _, _, rfl, e5, ?_⟩
            rw [hl5, flatMap_take hr]
            simp [sgV, Pr.lines]
    · subst hσ
      rw [lw, List.take_length] at hl'
      walk_at "go"
      refine w_lcLv (sgV (p.lines.map fun l => l ++ [10])) (fun Q q => by walk_at "go"; exact q) (SqL.of hl') (by rw [sgV_len]; have := tl; simp only [Pg.lines, List.length_append, List.length_map] at this ⊢; unfold glines; rw [List.length_map]; omega) (by rw [sgV_len, sgV_len, List.length_map]; rfl) (fun _ => rfl) (fun i x z H2 hi hz e2 Q' q' => ?_) fun M H6 hM e6 hl6 => ?_
      · have hi' : (sgV p.lines)[i]? = some x := hi
        unfold sgV at hi' hz
        rw [List.getElem?_map] at hi' hz
        rw [List.getElem?_map] at hz
        cases hg : p.lines[i]? with
        | none => rw [hg] at hi'; cases hi'
        | some g =>
          rw [hg] at hi' hz
          cases hi'
          cases hz
          have := pg_line kall g (List.mem_of_getElem? hg)
          walk_at "go"
          exact q' _ (Same.refl _)
      · refine w_joinN (Or.inl (SqL.of hl6)) (Nat.le_trans tx (by decide)) ?_
        rw [← unlines_eq]
        exact q _ (e.trans e6)
end Cc
namespace Cc
/-! ### the law's words -/
def Wd (ts : List Tk) : List Tx := ts.map Tk.tx
theorem wd_app (a b : List Tk) : Wd (a ++ b) = Wd a ++ Wd b := List.map_append
theorem wd_len (a : List Tk) : (Wd a).length = a.length := List.length_map _
def exT : Nat → Nat
  | 0 => 2
  | n + 1 => 2 * exT n + 3
theorem exT_ge : ∀ n, 2 ≤ exT n
  | 0 => Nat.le_refl _
  | n + 1 => by
    have := exT_ge n
    show 2 ≤ 2 * exT n + 3
    omega
theorem ex_tk : ∀ (n : Nat) (e : Ex), e.ok n → e.tk.length ≤ exT n
  | n, .num i, h => by
    have h2 := exT_ge n
    show (numTk i).length ≤ _
    unfold numTk
    split <;> (simp only [List.length_cons, List.length_nil]; omega)
  | n, .name x, h => by
    have h2 := exT_ge n
    show 1 ≤ _
    omega
  | 0, .op _ _ _, h => h.elim
  | n + 1, .op g l r, h => by
    have h1 := ex_tk n l h.1
    have h2 := ex_tk n r h.2
    show (Tk.s sLp :: (l.tk ++ g.tk :: (r.tk ++ [.s sRp]))).length ≤ 2 * exT n + 3
    simp only [List.length_append, List.length_cons, List.length_nil]
    omega
theorem ex_tk3 {n : Nat} (hn : n ≤ 3) {e : Ex} (h : e.ok n) : e.tk.length ≤ 37 := by
  have h1 := ex_tk n e h
  have h2 : exT n ≤ 37 := by
    rcases (by omega : n = 0 ∨ n = 1 ∨ n = 2 ∨ n = 3) with h | h | h | h <;> (subst h; decide)
  omega
theorem ex_tk1 {e : Ex} (h : e.ok 1) : e.tk.length ≤ 7 := ex_tk 1 e h
def coT : Nat → Nat
  | 0 => 15
  | n + 1 => 2 * coT n + 3
theorem coT_ge : ∀ n, 15 ≤ coT n
  | 0 => Nat.le_refl _
  | n + 1 => by
    have := coT_ge n
    show 15 ≤ 2 * coT n + 3
    omega
theorem co_tk : ∀ (n : Nat) (c : Co), c.ok n → c.tk.length ≤ coT n
  | n, .cmp g l r, h => by
    have h1 := ex_tk1 (co_cmp h).1
    have h2 := ex_tk1 (co_cmp h).2
    have h4 := coT_ge n
    show (l.tk ++ .s g.tx :: r.tk).length ≤ coT n
    simp only [List.length_append, List.length_cons, List.length_nil]
    omega
  | 0, .not _, h => h.elim
  | n + 1, .not c, h => by
    have h1 := co_tk n c h
    show (Tk.w kNot :: c.tk).length ≤ 2 * coT n + 3
    simp only [List.length_append, List.length_cons, List.length_nil]
    omega
  | 0, .bin _ _ _, h => h.elim
  | n + 1, .bin k a b, h => by
    have h1 := co_tk n a h.1
    have h2 := co_tk n b h.2
    show (Tk.s sLs :: (a.tk ++ .w (andOr k) :: (b.tk ++ [.s sRs]))).length ≤ 2 * coT n + 3
    simp only [List.length_append, List.length_cons, List.length_nil]
    omega
theorem co_tk2 {n : Nat} (hn : n ≤ 2) {c : Co} (h : c.ok n) : c.tk.length ≤ 69 := by
  have h1 := co_tk n c h
  have h2 : coT n ≤ 69 := by
    rcases (by omega : n = 0 ∨ n = 1 ∨ n = 2) with h | h | h <;> (subst h; decide)
  omega
theorem decI_neg {i : Int} (h : i < 0) : decI (0 - i) = dec i.natAbs := by
  unfold decI
  rw [if_neg (by omega), show (0 - i).natAbs = i.natAbs by omega]
theorem decI_pos {i : Int} (h : ¬ i < 0) : decI i = dec i.natAbs := by
  unfold decI
  rw [if_neg h]
def sp__law_expression_words (K : PySem.W.Frag) (n : Nat) : Sp := fun vs H Q _ => ∃ (v : V) (e : Ex) (m : Nat), vs = [v] ∧ n = m + 1 ∧ m ≤ 3 ∧ Dp K H v e.da ∧ e.ok m ∧ RetL (Wd e.tk) H Q
theorem pu__law_expression_words {K : PySem.W.Frag} {n : Nat} (vs : List V) (H : Hp) (Q : VK) (E : XK) (h : sp__law_expression_words K (n + 1) vs H Q E) :
    t__law_expression_words K (sp__law_expression_words K n) { nx := fun _ H' => Q .non H', rt := Q } (start n__law_expression_words vs) H := by
  obtain ⟨v, e, m, rfl, hm, h3, hd, hk, q⟩ := h
  delta t__law_expression_words
  cases hm
  cases e with
  | num i =>
    obtain ⟨a, v1, rfl, ht, hd1⟩ := dp_t2 hd
    cases hd1
    have hi := ex_num hk
    walk_at "go"
    refine w_dec (fun hn => ?_) (fun hn => ?_)
    · walk_at "go"
      rename_i p H1 hp e1 hl
      refine q p H1 (by walk_at "fr") (by walk_at "sm") ?_
      rw [hl, decI_neg hn]
      show _ = some (HO.lst (sgV (Wd (numTk i))))
      unfold numTk
      rw [if_pos hn] <;> rfl
    · walk_at "go"
      rename_i p H1 hp e1 hl
      refine q p H1 (by walk_at "fr") (by walk_at "sm") ?_
      rw [hl, decI_pos hn]
      show _ = some (HO.lst (sgV (Wd (numTk i))))
      unfold numTk
      rw [if_neg hn] <;> rfl
  | name x =>
    obtain ⟨a, v1, rfl, ht, hd1⟩ := dp_t2 hd
    cases dp_str hd1
    walk_at "go"
    rename_i p H1 hp e1 hl
    exact q p H1 (by walk_at "fr") (by walk_at "sm") hl
  | op g l r =>
    obtain ⟨a, v1, v2, v3, rfl, ht, hd1, hd2, hd3⟩ := dp_t4 hd
    cases dp_str hd1
    obtain ⟨j, rfl, hl, hr⟩ := ex_op hk
    have sl := ex_tk3 (by omega) hl
    have sr := ex_tk3 (by omega) hr
    have wl := wd_len l.tk
    have wr := wd_len r.tk
    walk_at "go"
    refine ⟨v2, l, j, rfl, rfl, by omega, by walk_at "dp", hl, fun p1 H1 f1 e1 l1 => ?_⟩
    walk_at "go"
    refine ⟨v3, r, j, rfl, rfl, by omega, by walk_at "dp", hr, fun p2 H2 f2 e2 l2 => ?_⟩
    walk_at "go"
    rename_i p H9 hp e9 hl9
    refine q p H9 (by walk_at "fr") (by walk_at "sm") ?_
    rw [hl9]
    cases g <;> simp [Ex.tk, Wd, sgV, Sg.tk, Sg.tx, Tk.tx]
def sp__law_condition_words (K : PySem.W.Frag) (n : Nat) : Sp := fun vs H Q _ => ∃ (v : V) (c : Co) (m : Nat), vs = [v] ∧ n = m + 1 ∧ m ≤ 2 ∧ Dp K H v c.da ∧ c.ok m ∧ RetL (Wd c.tk) H Q
theorem pu__law_condition_words {K : PySem.W.Frag} {n : Nat} (vs : List V) (H : Hp) (Q : VK) (E : XK) (h : sp__law_condition_words K (n + 1) vs H Q E) :
    t__law_condition_words K (sp__law_condition_words K n) (sp__law_expression_words K 4) { nx := fun _ H' => Q .non H', rt := Q } (start n__law_condition_words vs) H := by
  obtain ⟨v, c, m, rfl, hm, h3, hd, hk, q⟩ := h
  delta t__law_condition_words
  cases hm
  cases c with
  | not c =>
    obtain ⟨a, v1, rfl, ht, hd1⟩ := dp_t2 hd
    obtain ⟨j, rfl, hc⟩ := co_not hk
    have sc := co_tk2 (by omega) hc
    have wc := wd_len c.tk
    walk_at "go"
    refine ⟨v1, c, j, rfl, rfl, by omega, by walk_at "dp", hc, fun p1 H1 f1 e1 l1 => ?_⟩
    walk_at "go"
    rename_i p H9 hp e9 hl9
    refine q p H9 (by walk_at "fr") (by walk_at "sm") ?_
    rw [hl9]
    simp [Co.tk, Wd, sgV, Tk.tx]
  | cmp g l r =>
    obtain ⟨a, v1, v2, v3, rfl, ht, hd1, hd2, hd3⟩ := dp_t4 hd
    cases dp_str hd1
    obtain ⟨hl, hr⟩ := co_cmp hk
    have sl := ex_tk1 hl
    have sr := ex_tk1 hr
    have wl := wd_len l.tk
    have wr := wd_len r.tk
    walk_at "go"
    refine ⟨v2, l, 3, rfl, rfl, by omega, by walk_at "dp", ex_up (by decide) hl, fun p1 H1 f1 e1 l1 => ?_⟩
    walk_at "go"
    refine ⟨v3, r, 3, rfl, rfl, by omega, by walk_at "dp", ex_up (by decide) hr, fun p2 H2 f2 e2 l2 => ?_⟩
    walk_at "go"
    rename_i p H9 hp e9 hl9
    refine q p H9 (by walk_at "fr") (by walk_at "sm") ?_
    rw [hl9]
    simp [Co.tk, Wd, sgV, Tk.tx]
  | bin k a b =>
    obtain ⟨p, v1, v2, rfl, ht, hd1, hd2⟩ := dp_t3 hd
    obtain ⟨j, rfl, ha, hb⟩ := co_bin hk
    have sa := co_tk2 (by omega) ha
    have sb := co_tk2 (by omega) hb
    have wa := wd_len a.tk
    have wb := wd_len b.tk
    have k1 : andOr k ≠ kNot := by cases k <;> decide
    have k2 : andOr k ≠ [99, 111, 109, 112, 97, 114, 101] := by cases k <;> decide
    walk_at "go"
    refine w_f (decide_eq_false k1) ?_
    walk_at "go"
    refine w_f (decide_eq_false k2) ?_
    walk_at "go"
    refine ⟨v1, a, j, rfl, rfl, by omega, by walk_at "dp", ha, fun p1 H1 f1 e1 l1 => ?_⟩
    walk_at "go"
    refine ⟨v2, b, j, rfl, rfl, by omega, by walk_at "dp", hb, fun p2 H2 f2 e2 l2 => ?_⟩
    walk_at "go"
    rename_i p H9 hp e9 hl9
    refine q p H9 (by walk_at "fr") (by walk_at "sm") ?_
    rw [hl9]
    simp [Co.tk, Wd, sgV, Tk.tx]
end Cc
namespace Cc
/-! ### lists of words, commas between -/
def cms : List (List Tx) → List Tx
  | [] => []
  | [x] => x
  | x :: y :: r => x ++ sCm :: cms (y :: r)
theorem cms_snoc : ∀ (l : List (List Tx)) (x : List Tx), cms (l ++ [x]) = (if l.isEmpty then [] else cms l ++ [sCm]) ++ x
  | [], x => rfl
  | [a], x => by simp [cms]
  | a :: b :: r, x => by
    have h := cms_snoc (b :: r) x
    have e : cms (a :: b :: r ++ [x]) = a ++ sCm :: cms (b :: r ++ [x]) := rfl
    rw [e, h]
    simp [cms]
theorem cms_commas : ∀ l : List (List Tk), Wd (commas l) = cms (l.map Wd)
  | [] => rfl
  | [x] => rfl
  | x :: y :: r => by
    have h := cms_commas (y :: r)
    show Wd (x ++ .s sCm :: commas (y :: r)) = Wd x ++ sCm :: cms ((y :: r).map Wd)
    rw [← h]
    simp [Wd, Tk.tx]
theorem cms_len {B : Nat} : ∀ {l : List (List Tx)}, (∀ x ∈ l, x.length ≤ B) → (cms l).length ≤ (B + 1) * l.length
  | [], _ => Nat.zero_le _
  | [x], h => by
    have := h x List.mem_cons_self
    show x.length ≤ _
    simp
    omega
  | x :: y :: r, h => by
    have h1 := h x List.mem_cons_self
    have h2 := cms_len (l := y :: r) fun z hz => h z (List.mem_cons_of_mem _ hz)
    show (x ++ sCm :: cms (y :: r)).length ≤ _
    rw [List.length_append, List.length_cons, List.length_cons, Nat.mul_succ]
    omega
/-- the rows stand at these places -/
def RowsAt (H : Hp) (vs : List V) (ls : List (List Tx)) : Prop := vs.length = ls.length ∧ ∀ (i : Nat) (v : V) (l : List Tx), vs[i]? = some v → ls[i]? = some l → ∃ p, v = .ref p ∧ H p = some (.lst (sgV l))
def sp__law_listed (K : PySem.W.Frag) : Sp := fun vs H Q _ => ∃ (a : Addr) (xs : List V) (ls : List (List Tx)), vs = [.ref a] ∧ SqL K H a xs ∧ RowsAt H xs ls ∧ ls.length ≤ 100 ∧ (∀ l ∈ ls, l.length ≤ 1000) ∧ RetL (cms ls) H Q
theorem take_succ_get {α : Type} {l : List α} {i : Nat} {x : α} (h : l[i]? = some x) : l.take (i + 1) = l.take i ++ [x] := by
  rw [List.take_succ, h] <;> rfl
theorem pu__law_listed {K : PySem.W.Frag} (vs : List V) (H : Hp) (Q : VK) (E : XK) (h : sp__law_listed K vs H Q E) :
    t__law_listed K { nx := fun _ H' => Q .non H', rt := Q } (start n__law_listed vs) H := by
  obtain ⟨a, xs, ls, rfl, ha, hr, hn, hb, q⟩ := h
  delta t__law_listed
  walk_at "go"
  rename_i p H1 hp e1 hl
  refine l_forR (n := xs.length) (fun Q q => by walk_at "go"; exact q) (by have := hr.1; omega)
    (fun i σ H' => ∃ p w, σ = [some (.ref a), some (.ref p), w] ∧ H p = none ∧ Same H H' ∧ H' p = some (.lst (sgV (cms (ls.take i))))) ⟨p, none, rfl, hp, e1, hl⟩
    (fun i σ' H' hi ⟨p, w, hσ, hp, e, hl'⟩ => ?_) (fun σ' H' ⟨p, w, hσ, hp, e, hl'⟩ => ?_)
  · subst hσ
    have hi2 : i < ls.length := by have := hr.1; omega
    have g1 : xs[i]? = some xs[i] := List.getElem?_eq_getElem hi
    have g2 : ls[i]? = some ls[i] := List.getElem?_eq_getElem hi2
    obtain ⟨r, hv, hrr⟩ := hr.2 i _ _ g1 g2
    rw [hv] at g1
    have b1 := hb ls[i] (List.getElem_mem hi2)
    have b2 := cms_len (B := 1000) (l := ls.take i) fun x hx => hb x (List.mem_of_mem_take hx)
    have b3 : (ls.take i).length ≤ 100 := by rw [List.length_take]; omega
    have b4 : (cms (ls.take i)).length ≤ 100100 := Nat.le_trans b2 (Nat.mul_le_mul_left 1001 b3)
    have sn : cms (ls.take (i + 1)) = (if (ls.take i).isEmpty then [] else cms (ls.take i) ++ [sCm]) ++ ls[i] := by rw [take_succ_get g2, cms_snoc]
    have hra : rIxL K (.ref a) (.int (i : Int)) = rIxL K (.ref a) (.int (i : Int)) := rfl
    walk_at "go"
    refine w_dec (fun hc => ?_) (fun hc => ?_)
    · walk_at "go"
      refine' w_app (H0 := H) ?e ?f ?h ?n ?q
      case e => walk_at "sm"
      case f => walk_at "fr"
      case h => walk_at "at"
      case n => rw [sgV_len]; omega
      case q =>
        intro H2 e2 hl2
        walk_at "go"
        refine w_ixL (L2.Same.seq e2 ha) (atI_nat g1) ?_
        refine w_cat hl2 (e2 _ _ hrr) (by rw [List.length_append, sgV_len, sgV_len, List.length_cons, List.length_nil]; omega) fun z H3 hz e3 hl3 => ?_
        refine ⟨z, some (.int (i : Int)), rfl, by walk_at "fr", by walk_at "sm", ?_⟩
        rw [hl3, sn, if_neg (by
          intro hE
          have h0 := List.isEmpty_iff.mp hE
          have := congrArg List.length h0
          rw [List.length_take, List.length_nil] at this
          omega)]
        simp [sgV]
    · walk_at "go"
      refine w_ixL (L2.Same.seq e ha) (atI_nat g1) ?_
      refine w_cat hl' (e _ _ hrr) (by rw [sgV_len, sgV_len]; omega) fun z H3 hz e3 hl3 => ?_
      have i0 : i = 0 := by omega
      refine ⟨z, some (.int (i : Int)), rfl, by walk_at "fr", by walk_at "sm", ?_⟩
      rw [hl3, sn]
      subst i0
      simp [sgV, cms]
  · subst hσ
    rw [hr.1, List.take_length] at hl'
    walk_at "go"
    exact q p H' hp e hl'
/-! ### statements, blocks -/
def smT : Nat → Nat
  | 0 => 80
  | n + 1 => 86 + 6 * smT n
theorem smT_ge : ∀ n, 80 ≤ smT n
  | 0 => Nat.le_refl _
  | n + 1 => by
    show 80 ≤ 86 + 6 * smT n
    omega
theorem smT3 {m : Nat} (h : m ≤ 3) : smT m ≤ 20978 := by
  rcases (by omega : m = 0 ∨ m = 1 ∨ m = 2 ∨ m = 3) with h | h | h | h <;> (subst h; decide)
theorem commas_le {B : Nat} : ∀ {l : List (List Tk)}, (∀ x ∈ l, x.length ≤ B) → (commas l).length ≤ (B + 1) * l.length
  | [], _ => Nat.zero_le _
  | [x], h => by
    have := h x List.mem_cons_self
    show x.length ≤ _
    simp
    omega
  | x :: y :: r, h => by
    have h1 := h x List.mem_cons_self
    have h2 := commas_le (l := y :: r) fun z hz => h z (List.mem_cons_of_mem _ hz)
    show (x ++ .s sCm :: commas (y :: r)).length ≤ _
    rw [List.length_append, List.length_cons, List.length_cons, Nat.mul_succ]
    omega
theorem es_commas {es : List Ex} (h : ∀ e ∈ es, e.ok 1) (hn : es.length ≤ 3) : (commas (es.map Ex.tk)).length ≤ 24 := by
  have h1 := commas_le (B := 7) (l := es.map Ex.tk) fun x hx => by
    obtain ⟨e, he, rfl⟩ := List.mem_map.mp hx
    exact ex_tk1 (h e he)
  rw [List.length_map] at h1
  omega
theorem tks_le {B : Nat} : ∀ {b : List Sm}, (∀ s ∈ b, s.tk.length ≤ B) → (Sm.tks b).length ≤ B * b.length
  | [], _ => by simp only [Sm.tks]; exact Nat.zero_le _
  | s :: r, h => by
    have h1 := h s List.mem_cons_self
    have h2 := tks_le (b := r) fun z hz => h z (List.mem_cons_of_mem _ hz)
    simp only [Sm.tks, List.length_append, List.length_cons]
    rw [Nat.mul_succ]
    omega
theorem sm_tk_flat {m : Nat} {s : Sm} (h : s.ok m) (hf : s.flat = true) : s.tk.length ≤ 80 := by
  cases s with
  | ite _ _ _ => cases hf
  | whil _ _ => cases hf
  | set x e =>
    have := ex_tk3 (by decide) (sm_set h).2
    simp only [Sm.tk, List.length_append, List.length_cons, List.length_nil]
    omega
  | ask x => simp only [Sm.tk, List.length_cons, List.length_nil]; omega
  | tell k e =>
    have := ex_tk3 (by decide) (sm_tell h)
    simp only [Sm.tk, List.length_append, List.length_cons, List.length_nil]
    omega
  | chk k c =>
    have := co_tk2 (by decide) (sm_chk h)
    simp only [Sm.tk, List.length_append, List.length_cons, List.length_nil]
    omega
  | call f es t =>
    obtain ⟨h1, h2, h3, h4⟩ := sm_call h
    have := es_commas h3 h2
    have h5 : (toTk t).length ≤ 2 := by cases t <;> simp [toTk]
    simp only [Sm.tk, List.length_append, List.length_cons, List.length_nil]
    omega
theorem sm_tk : ∀ (m : Nat) (s : Sm), s.ok m → s.tk.length ≤ smT m := by
  intro m
  induction m with
  | zero =>
    intro s h
    cases s with
    | ite _ _ _ => obtain ⟨j, hj, _⟩ := sm_ite h; cases hj
    | whil _ _ => obtain ⟨j, hj, _⟩ := sm_whil h; cases hj
    | _ => exact sm_tk_flat h rfl
  | succ m ih =>
    intro s h
    have g := smT_ge (m + 1)
    cases s with
    | ite c a b =>
      obtain ⟨j, hj, hc, h1, h2, h3, h4⟩ := sm_ite h
      cases hj
      have c1 := co_tk2 (by decide) hc
      have l1 := tks_le (b := a) fun s hs => ih s (h3 s hs)
      have l2 := tks_le (b := b) fun s hs => ih s (h4 s hs)
      have l3 : smT m * a.length ≤ smT m * 3 := Nat.mul_le_mul_left _ h1
      have l4 : smT m * b.length ≤ smT m * 3 := Nat.mul_le_mul_left _ h2
      simp only [Sm.tk]
      show _ ≤ 86 + 6 * smT m
      split <;> (simp only [List.length_append, List.length_cons, List.length_nil]; omega)
    | whil c a =>
      obtain ⟨j, hj, hc, h1, h3⟩ := sm_whil h
      cases hj
      have c1 := co_tk2 (by decide) hc
      have l1 := tks_le (b := a) fun s hs => ih s (h3 s hs)
      have l3 : smT m * a.length ≤ smT m * 3 := Nat.mul_le_mul_left _ h1
      simp only [Sm.tk]
      show _ ≤ 86 + 6 * smT m
      simp only [List.length_append, List.length_cons, List.length_nil]
      omega
    | _ => exact Nat.le_trans (sm_tk_flat h rfl) g
theorem tks_len {m : Nat} (hm : m ≤ 3) {b : List Sm} (h : ∀ s ∈ b, s.ok m) (hb : b.length ≤ 60) : (Sm.tks b).length ≤ 1258680 := by
  have h1 := tks_le (b := b) (B := smT m) fun s hs => sm_tk m s (h s hs)
  have h2 := Nat.mul_le_mul (smT3 hm) hb
  omega
def blkTk (b : List Sm) : List Tk := .s sLb :: (Sm.tks b ++ [.s sRb])
theorem tks_take {b : List Sm} {i : Nat} {s : Sm} (h : b[i]? = some s) : Sm.tks (b.take (i + 1)) = Sm.tks (b.take i) ++ s.tk := by
  have e : ∀ l : List Sm, Sm.tks l = l.flatMap Sm.tk := fun l => by
    induction l with
    | nil => rfl
    | cons x r ih => simp only [Sm.tks, List.flatMap_cons, ih]
  rw [e, e, take_succ_get h, List.flatMap_append]
  simp
def sp__law_block_words (K : PySem.W.Frag) (n : Nat) : Sp := fun vs H Q _ => ∃ (v : V) (b : List Sm) (m : Nat), vs = [v] ∧ n = m + 1 ∧ m ≤ 3 ∧ Dp K H v (.tuple (Sm.das b)) ∧ (∀ s ∈ b, s.ok m) ∧ b.length ≤ 60 ∧ RetL (Wd (blkTk b)) H Q
def sp__law_statement_words (K : PySem.W.Frag) (n : Nat) : Sp := fun vs H Q _ => ∃ (v : V) (s : Sm) (m : Nat), vs = [v] ∧ n = m + 1 ∧ m ≤ 3 ∧ Dp K H v s.da ∧ s.ok m ∧ RetL (Wd s.tk) H Q
theorem pu__law_block_words {K : PySem.W.Frag} {n : Nat} (vs : List V) (H : Hp) (Q : VK) (E : XK) (h : sp__law_block_words K n vs H Q E) :
    t__law_block_words K (sp__law_statement_words K n) { nx := fun _ H' => Q .non H', rt := Q } (start n__law_block_words vs) H := by
  obtain ⟨v, b, m, rfl, hn, h3, hd, hk, hb, q⟩ := h
  obtain ⟨a, ws, rfl, ht, hw⟩ := dp_tup hd
  rw [das_map] at hw
  have lw := dpall_len hw
  rw [List.length_map] at lw
  delta t__law_block_words
  walk_at "go"
  rename_i p H1 hp e1 hl
  refine l_forT (fun Q q => by walk_at "go"; exact q) (by walk_at "tup") (fun i σ H' => ∃ p w, σ = [some (.ref a), some (.ref p), w] ∧ H p = none ∧ Same H H' ∧ H' p = some (.lst (sgV (Wd (.s sLb :: Sm.tks (b.take i)))))) ⟨p, none, rfl, hp, e1, hl⟩
    (fun i σ' H' ⟨p, w, _, _, e, _⟩ => same_sqt e ht) (fun i x σ' H' hx ⟨p, w, hσ, hp, e, hl'⟩ => ?_) (fun σ' H' ⟨p, w, hσ, hp, e, hl'⟩ => ?_)
  · subst hσ
    obtain ⟨s, hs, hds⟩ := dpall_map hw hx
    have ks := hk s (List.mem_of_getElem? hs)
    have l1 := sm_tk m s ks
    have l2 := smT3 h3
    have l3 := tks_len h3 (b := b.take i) (fun s hs => hk s (List.mem_of_mem_take hs)) (by rw [List.length_take]; omega)
    walk_at "go"
    refine ⟨x, s, m, rfl, hn, h3, by walk_at "dp", ks, fun r H2 hr e2 hl2 => ?_⟩
    refine w_cat (e2 _ _ hl') hl2 (by rw [sgV_len, sgV_len, wd_len, wd_len, List.length_cons]; omega) fun z H3 hz e3 hl3 => ?_
    refine ⟨z, some x, rfl, by walk_at "fr", by walk_at "sm", ?_⟩
    rw [hl3, tks_take hs]
    simp [sgV, Wd]
  · subst hσ
    rw [lw, List.take_length] at hl'
    have l3 := tks_len h3 hk hb
    walk_at "go"
    rename_i p2 H2 hp2 e2 hl2
    refine w_cat (e2 _ _ hl') hl2 (by rw [sgV_len, wd_len, List.length_cons]; simp; omega) fun z H3 hz e3 hl3 => ?_
    refine q z H3 (by walk_at "fr") (by walk_at "sm") ?_
    rw [hl3]
    simp [sgV, Wd, blkTk, Tk.tx]
end Cc
namespace Cc
theorem rows_same {H H' : Hp} {vs : List V} {ls : List (List Tx)} (e : Same H H') (h : RowsAt H vs ls) : RowsAt H' vs ls :=
  ⟨h.1, fun i v l a b => let ⟨p, q, r⟩ := h.2 i v l a b; ⟨p, q, e _ _ r⟩⟩
theorem w_isntNone {H : Hp} {Q : VK} {x : V} (q : Q (.bl (!decide (x = .non))) H) : rIsntNone x .non H Q := ⟨rfl, q⟩
theorem pu__law_statement_words {K : PySem.W.Frag} {n : Nat} (vs : List V) (H : Hp) (Q : VK) (E : XK) (h : sp__law_statement_words K (n + 1) vs H Q E) :
    t__law_statement_words K (sp__law_expression_words K 4) (sp__law_condition_words K 3) (sp__law_listed K) (sp__law_block_words K n) { nx := fun _ H' => Q .non H', rt := Q } (start n__law_statement_words vs) H := by
  obtain ⟨v, s, m, rfl, hm, h3, hd, hk, q⟩ := h
  have hn' : n = m := by omega
  subst hn'
  delta t__law_statement_words
  cases s with
  | set x e =>
    obtain ⟨a, v1, v2, rfl, ht, hd1, hd2⟩ := dp_t3 hd
    cases dp_str hd1
    obtain ⟨h1, h2⟩ := sm_set hk
    have l2 := ex_tk3 (by decide) h2
    have w2 := wd_len e.tk
    walk_at "go"
    refine ⟨v2, e, 3, rfl, rfl, by omega, by walk_at "dp", h2, fun p1 H1 f1 e1 l1 => ?_⟩
    walk_at "go"
    rename_i p H9 hp e9 hl9
    refine q p H9 (by walk_at "fr") (by walk_at "sm") ?_
    rw [hl9]
    simp [Sm.tk, Wd, sgV, Tk.tx]
  | ask x =>
    obtain ⟨a, v1, rfl, ht, hd1⟩ := dp_t2 hd
    cases dp_str hd1
    walk_at "go"
    rename_i p H9 hp e9 hl9
    refine q p H9 (by walk_at "fr") (by walk_at "sm") ?_
    rw [hl9]
    simp [Sm.tk, Wd, sgV, Tk.tx]
  | tell k e =>
    obtain ⟨a, v1, rfl, ht, hd1⟩ := dp_t2 hd
    have l1 := ex_tk3 (by decide) (sm_tell hk)
    have w2 := wd_len e.tk
    cases k <;> (
      dsimp only [tellRet] at ht
      walk_at "go"
      refine ⟨v1, e, 3, rfl, rfl, by omega, by walk_at "dp", sm_tell hk, fun p1 H1 f1 e1 l1 => ?_⟩
      walk_at "go"
      rename_i p H9 hp e9 hl9
      refine q p H9 (by walk_at "fr") (by walk_at "sm") ?_
      rw [hl9]
      simp [Sm.tk, Wd, sgV, Tk.tx, tellRet])
  | chk k c =>
    obtain ⟨a, v1, rfl, ht, hd1⟩ := dp_t2 hd
    have l1 := co_tk2 (by decide) (sm_chk hk)
    have w2 := wd_len c.tk
    cases k <;> (
      dsimp only [chkNeed] at ht
      walk_at "go"
      refine ⟨v1, c, 2, rfl, rfl, by omega, by walk_at "dp", sm_chk hk, fun p1 H1 f1 e1 l1 => ?_⟩
      walk_at "go"
      rename_i p H9 hp e9 hl9
      refine q p H9 (by walk_at "fr") (by walk_at "sm") ?_
      rw [hl9]
      simp [Sm.tk, Wd, sgV, Tk.tx, chkNeed])
  | call f es t =>
    obtain ⟨a, v1, v2, v3, rfl, ht, hd1, hd2, hd3⟩ := dp_t4 hd
    cases dp_str hd1
    obtain ⟨p, ws, rfl, hp, hw⟩ := dp_tup hd2
    obtain ⟨h1, h2, h3, h4⟩ := sm_call hk
    have l4 := dpall_len hw
    rw [List.length_map] at l4
    have c1 := es_commas h3 h2
    have c2 : (cms ((es.map Ex.tk).map Wd)).length ≤ 24 := by rw [← cms_commas, wd_len]; exact c1
    walk_at "go"
    refine w_lcT (R := fun D i v H => ∃ p e, es[i]? = some e ∧ v = .ref p ∧ p ≠ D ∧ H p = some (.lst (sgV (Wd e.tk)))) (fun Q q => by walk_at "go"; exact q) (by walk_at "tup") (by omega)
      (fun D i v H H' e ⟨p, x, h1, h2, h3, h4⟩ => ⟨p, x, h1, h2, h3, e _ _ h3 h4⟩) (fun _ => rfl) (fun D i x H2 hi hD ⟨ys, hy⟩ e2 Q' q' => ?_) fun D H2 ys hD e2 hd2 hl2 hr2 => ?_
    · obtain ⟨e, he, hde⟩ := dpall_map hw hi
      walk_at "go"
      refine ⟨x, e, 3, rfl, rfl, by omega, by walk_at "dp", ex_up (by decide) (h3 e (List.mem_of_getElem? he)), fun p1 H3 f1 e3 l1 => q' _ _ e3 ⟨p1, e, he, rfl, (ne_of_none hy f1).symm, l1⟩⟩
    · walk_at "go"
      refine ⟨D, ys, (es.map Ex.tk).map Wd, rfl, SqL.of hd2, ⟨by rw [hl2, List.length_map, List.length_map]; exact l4, fun i v l a b => ?_⟩, by rw [List.length_map, List.length_map]; omega, ?_, fun p1 H3 f1 e3 l1 => ?_⟩
      · obtain ⟨r, e, g1, g2, _, g3⟩ := hr2 i v a
        refine ⟨r, g2, ?_⟩
        rw [List.getElem?_map, List.getElem?_map, g1] at b
        cases b
        exact g3
      · intro l hl
        obtain ⟨z, hz, rfl⟩ := List.mem_map.mp hl
        obtain ⟨e, he, rfl⟩ := List.mem_map.mp hz
        have := ex_tk1 (h3 e he)
        rw [wd_len]
        omega
      · rw [← cms_commas] at l1 c2
        walk_at "go"
        refine w_isntNone ?_
        cases t with
        | none =>
          cases hd3
          walk_at "go"
          rename_i p H9 hp e9 hl9
          refine q p H9 (by walk_at "fr") (by walk_at "sm") ?_
          rw [hl9]
          simp [Sm.tk, Wd, sgV, Tk.tx, toTk]
        | some x =>
          cases dp_str hd3
          walk_at "go"
          rename_i p H9 hp e9 hl9
          refine q p H9 (by walk_at "fr") (by walk_at "sm") ?_
          rw [hl9]
          simp [Sm.tk, Wd, sgV, Tk.tx, toTk]
  | whil c b =>
    obtain ⟨j, rfl, hc, l1, kb⟩ := sm_whil hk
    obtain ⟨a, v1, v2, rfl, ht, hd1, hd2⟩ := dp_t3 hd
    have c1 := co_tk2 (by decide) hc
    have w1 := wd_len c.tk
    have lb := tks_len (m := j) (by omega) kb (by omega)
    have w2 := wd_len (blkTk b)
    have w3 : (blkTk b).length = (Sm.tks b).length + 2 := by simp [blkTk]
    walk_at "go"
    refine ⟨v1, c, 2, rfl, rfl, by omega, by walk_at "dp", hc, fun p1 H1 f1 e1 l1 => ?_⟩
    walk_at "go"
    refine ⟨v2, b, j, rfl, rfl, by omega, by walk_at "dp", kb, by omega, fun p2 H2 f2 e2 l2 => ?_⟩
    walk_at "go"
    rename_i p H9 hp e9 hl9
    refine q p H9 (by walk_at "fr") (by walk_at "sm") ?_
    rw [hl9]
    simp [Sm.tk, Wd, sgV, Tk.tx, blkTk]
  | ite c b b2 =>
    obtain ⟨j, rfl, hc, l1, l2, kb, kb2⟩ := sm_ite hk
    obtain ⟨a, v1, v2, v3, rfl, ht, hd1, hd2, hd3⟩ := dp_t4 hd
    have c1 := co_tk2 (by decide) hc
    have w1 := wd_len c.tk
    have lb := tks_len (m := j) (by omega) kb (by omega)
    have w2 := wd_len (blkTk b)
    have w3 : (blkTk b).length = (Sm.tks b).length + 2 := by simp [blkTk]
    have lb2 := tks_len (m := j) (by omega) kb2 (by omega)
    have w4 := wd_len (blkTk b2)
    have w5 : (blkTk b2).length = (Sm.tks b2).length + 2 := by simp [blkTk]
    walk_at "go"
    refine ⟨v1, c, 2, rfl, rfl, by omega, by walk_at "dp", hc, fun p1 H1 f1 e1 l1 => ?_⟩
    walk_at "go"
    refine ⟨v2, b, j, rfl, rfl, by omega, by walk_at "dp", kb, by omega, fun p2 H2 f2 e2 l2 => ?_⟩
    walk_at "go"
    rename_i p0 H4 hp0 e4 ht4
    refine w_neD (d := .tuple (Sm.das b2)) (e := .tuple []) (by walk_at "dp") (.tup (by walk_at "tup") .nil) ((gd_blk kb2).shaped (by omega)) rfl ?_
    rw [das_eqv]
    cases b2 with
    | nil =>
      walk_at "go"
      refine q _ _ (by walk_at "fr") (by walk_at "sm") ?_
      refine' Eq.trans (b := some (HO.lst ?xs)) ?a ?b
      case a => walk_at "at"
      case b => simp [Sm.tk, Wd, sgV, Tk.tx, blkTk]
    | cons s0 r0 =>
      walk_at "go"
      refine ⟨v3, s0 :: r0, j, rfl, rfl, by omega, by walk_at "dp", kb2, by omega, fun p5 H5 f5 e5 l5 => ?_⟩
      walk_at "go"
      rename_i p H9 hp e9 hl9
      refine q p H9 (by walk_at "fr") (by walk_at "sm") ?_
      rw [hl9]
      simp [Sm.tk, Wd, sgV, Tk.tx, blkTk]
theorem gs_take {gs : List Tx} {i : Nat} {x : Tx} (h : gs[i]? = some x) : gsTk (gs.take (i + 1)) = gsTk (gs.take i) ++ [.w kGlobal, .w x, .s sSc] := by
  have e : ∀ l : List Tx, gsTk l = l.flatMap fun x => [.w kGlobal, .w x, .s sSc] := fun l => by
    induction l with
    | nil => rfl
    | cons x r ih => simp only [gsTk, List.flatMap_cons, ih]; rfl
  rw [e, e, take_succ_get h, List.flatMap_append]
  simp
theorem prs_take {ps : List Pr} {i : Nat} {x : Pr} (h : ps[i]? = some x) : prsTk (ps.take (i + 1)) = prsTk (ps.take i) ++ x.tk := by
  have e : ∀ l : List Pr, prsTk l = l.flatMap Pr.tk := fun l => by
    induction l with
    | nil => rfl
    | cons x r ih => simp only [prsTk, List.flatMap_cons, ih]
  rw [e, e, take_succ_get h, List.flatMap_append]
  simp
theorem prs_le : ∀ {ps : List Pr}, (∀ p ∈ ps, p.tk.length ≤ 1258720) → (prsTk ps).length ≤ 1258720 * ps.length
  | [], _ => Nat.zero_le _
  | p :: r, h => by
    have h1 := h p List.mem_cons_self
    have h2 := prs_le (ps := r) fun z hz => h z (List.mem_cons_of_mem _ hz)
    simp only [prsTk, List.length_append, List.length_cons]
    omega
theorem ps_commas {ps : List Tx} (hn : ps.length ≤ 7) : (psTk ps).length ≤ 14 := by
  have h1 := commas_le (B := 1) (l := ps.map fun x => [Tk.w x]) fun x hx => by
    obtain ⟨e, he, rfl⟩ := List.mem_map.mp hx
    exact Nat.le_refl _
  rw [List.length_map] at h1
  unfold psTk
  omega
theorem pr_tk_len {p : Pr} (h : p.ok) : p.tk.length ≤ 1258720 := by
  obtain ⟨h1, h2, h3, h4, h5⟩ := h
  have a1 := ps_commas h2
  have a2 := tks_len (by decide) h5 (by omega)
  simp only [Pr.tk, List.length_append, List.length_cons, List.length_nil]
  omega
def sp__law_program_words (K : PySem.W.Frag) : Sp := fun vs H Q _ => ∃ (v : V) (p : Pg), vs = [v] ∧ Dp K H v p.da ∧ p.ok ∧ RetL (Wd p.tk) H Q
theorem pu__law_program_words {K : PySem.W.Frag} (vs : List V) (H : Hp) (Q : VK) (E : XK) (h : sp__law_program_words K vs H Q E) :
    t__law_program_words K (sp__law_listed K) (sp__law_block_words K 4) { nx := fun _ H' => Q .non H', rt := Q } (start n__law_program_words vs) H := by
  obtain ⟨v, p, rfl, hd, hk, q⟩ := h
  obtain ⟨a, b, c, us, ws, rfl, ha, hb, hc, hus, hws⟩ := dp_pg hd
  have eu := dp_names hus
  subst eu
  have lw := dpall_len hws
  rw [List.length_map] at lw
  obtain ⟨k1, k2, k3, k4⟩ := hk
  have g1 := gs_tk_len p.gs
  delta t__law_program_words
  walk_at "go"
  rename_i L0 H1 hL e1 hl1
  refine l_forT (fun Q q => by walk_at "go"; exact q) (same_sqt e1 hb) (fun i σ H' => ∃ p0 w, σ = [some (.ref a), some (.ref p0), w, none, none, none] ∧ H p0 = none ∧ Same H H' ∧ H' p0 = some (.lst (sgV (Wd (gsTk (p.gs.take i)))))) ⟨L0, none, rfl, hL, e1, hl1⟩
    (fun i σ' H' ⟨_, _, _, _, e, _⟩ => same_sqt e hb) (fun i x σ' H' hx ⟨p0, w, hσ, hp, e, hl'⟩ => ?_) (fun σ' H' ⟨p0, w, hσ, hp, e, hl'⟩ => ?_)
  · subst hσ
    unfold sgV at hx
    rw [List.getElem?_map] at hx
    cases hg : p.gs[i]? with
    | none => rw [hg] at hx; cases hx
    | some g =>
      rw [hg] at hx
      cases hx
      have n1 : (gsTk (p.gs.take i)).length ≤ 24 := by rw [gs_tk_len, List.length_take]; omega
      have n2 := wd_len (gsTk (p.gs.take i))
      walk_at "go"
      refine ⟨_, _, rfl, by walk_at "fr", by walk_at "sm", ?_⟩
      refine' Eq.trans (b := some (HO.lst ?xs)) ?a ?b
      case a => walk_at "at"
      case b =>
        rw [gs_take hg]
        simp [Wd, sgV, Tk.tx]
  · subst hσ
    rw [sgV_len, List.take_length] at hl'
    refine l_forTg (fun Q q => by walk_at "go"; exact q) (same_sqt e hc) (fun i σ H' => ∃ p0 w2 w3 w4, σ = [some (.ref a), some (.ref p0), w2, w3, w4, none] ∧ H p0 = none ∧ Same H H' ∧ H' p0 = some (.lst (sgV (Wd (gsTk p.gs ++ prsTk (p.prs.take i)))))) ⟨p0, w, none, none, rfl, hp, e, by rw [hl']; simp [prsTk]⟩
      (fun i σ' H' ⟨_, _, _, _, _, _, e, _⟩ => same_sqt e hc) (fun i x σ' H' hx ⟨p0, w2, w3, w4, hσ, hp, e, hl'⟩ => ?_) (fun σ' H' ⟨p0, w2, w3, w4, hσ, hp, e, hl'⟩ => ?_)
    · subst hσ
      obtain ⟨r, hr, hdr⟩ := dpall_map hws hx
      obtain ⟨ra, rb, rc, rus, rws, rfl, hra, hrb, hrc, hrus, hrws⟩ := dp_pr hdr
      have eu := dp_names hrus
      subst eu
      have kr := k4 r (List.mem_of_getElem? hr)
      have krr := pr_tk_len kr
      obtain ⟨m1, m2, m3, m4, m5⟩ := kr
      have n4 := tks_len (by decide) m5 (by omega)
      have n5 : (prsTk (p.prs.take i)).length ≤ 1258720 * 10 := by
        have h1 := prs_le (ps := p.prs.take i) fun z hz => pr_tk_len (k4 z (List.mem_of_mem_take hz))
        rw [List.length_take] at h1
        exact Nat.le_trans h1 (Nat.mul_le_mul_left _ (by omega))
      have n6 := wd_len (gsTk p.gs ++ prsTk (p.prs.take i))
      rw [List.length_append] at n6
      have n7 : (cms ((r.ps.map fun x => [x]))).length ≤ 14 := by
        have h1 := cms_len (B := 1) (l := r.ps.map fun x => [x]) fun x hx => by
          obtain ⟨e, he, rfl⟩ := List.mem_map.mp hx
          exact Nat.le_refl _
        rw [List.length_map] at h1
        omega
      have n8 := wd_len (blkTk r.body)
      have n9 : (blkTk r.body).length = (Sm.tks r.body).length + 2 := by simp [blkTk]
      refine ⟨_, _, rfl, same_sqt e hra, rfl, _, _, rfl, _, _, rfl, _, _, rfl, rfl, ?_⟩
      walk_at "go"
      refine w_lcT (R := fun D i v H => ∃ p x, r.ps[i]? = some x ∧ v = .ref p ∧ p ≠ D ∧ H p = some (.lst (sgV [x]))) (fun Q q => by walk_at "go"; exact q) (by walk_at "tup") (by rw [sgV_len]; omega)
        (fun D i v H H' e ⟨p, x, h1, h2, h3, h4⟩ => ⟨p, x, h1, h2, h3, e _ _ h3 h4⟩) (fun _ => rfl) (fun D i x H2 hi hD ⟨ys, hy⟩ e2 Q' q' => ?_) fun D H2 ys hD e2 hd2 hl2 hr2 => ?_
      · unfold sgV at hi
        rw [List.getElem?_map] at hi
        cases hg : r.ps[i]? with
        | none => rw [hg] at hi; cases hi
        | some g =>
          rw [hg] at hi
          cases hi
          walk_at "go"
          rename_i z H3 hz e3 hl3
          exact q' _ _ e3 ⟨z, g, hg, rfl, (ne_of_none hy hz).symm, hl3⟩
      · walk_at "go"
        refine ⟨D, ys, r.ps.map fun x => [x], rfl, SqL.of hd2, ⟨by rw [hl2, List.length_map, sgV_len], fun i v l a b => ?_⟩, by rw [List.length_map]; omega, ?_, fun p1 H3 f1 e3 l1 => ?_⟩
        · obtain ⟨z, e, g1, g2, _, g3⟩ := hr2 i v a
          refine ⟨z, g2, ?_⟩
          rw [List.getElem?_map, g1] at b
          cases b
          exact g3
        · intro l hl
          obtain ⟨z, hz, rfl⟩ := List.mem_map.mp hl
          exact Nat.le_of_ble_eq_true rfl
        · walk_at "go"
          refine ⟨.ref rc, r.body, 3, rfl, rfl, by omega, .tup (by walk_at "tup") (dp_keepAll (fun _ _ z => by walk_at "tup") _ _ (das_plain _) hrws), m5, by omega, fun p2 H4 f2 e4 l2 => ?_⟩
          walk_at "go"
          refine ⟨_, _, _, _, rfl, by walk_at "fr", by walk_at "sm", ?_⟩
          refine' Eq.trans (b := some (HO.lst ?zs)) ?a2 ?b2
          case a2 => walk_at "at"
          case b2 =>
            have e7 : cms (r.ps.map fun x => [x]) = Wd (psTk r.ps) := by
              unfold psTk
              rw [cms_commas, List.map_map]
              rfl
            rw [prs_take hr, e7]
            simp [Wd, sgV, Tk.tx, Pr.tk, blkTk]
    · subst hσ
      rw [lw, List.take_length] at hl'
      walk_at "go"
      exact q _ _ hp e hl'
end Cc
namespace Cc
open PySem PySem.Spec PyProof.Rows L2
/-! ### how a text falls into tokens -/
def signs : List Tx := [sEE, sNe, sLe, sLp, sRp, sLb, sRb, sLs, sRs, sCm, sSc, sEq, sLt, sPl, sMi, sMu, sDi]
def NoHd (f : Nat → Bool) (r : Tx) : Prop := ∀ c r', r = c :: r' → f c = false
/-- x is the first of the signs that stands at the head of r -/
def SignAt (x r : Tx) : Prop := ∃ i, signs[i]? = some x ∧ r.take x.length = x ∧ ∀ (j : Nat) (s : Tx), j < i → signs[j]? = some s → r.take s.length ≠ s
def TokOk : Tk → Tx → Prop
  | .w x, r => wordOk x = true ∧ NoHd isWc r
  | .n k, r => k ≤ 10000 ∧ NoHd isDig r
  | .s x, r => SignAt x (x ++ r)
inductive Lex : Tx → List Tk → Prop where
  | nil : Lex [] []
  | sp {r : Tx} {ts : List Tk} : Lex r ts → Lex (32 :: r) ts
  | nl {r : Tx} {ts : List Tk} : Lex r ts → Lex (10 :: r) ts
  | tok {r : Tx} {ts : List Tk} {k : Tk} : TokOk k r → Lex r ts → Lex (k.tx ++ r) (k :: ts)
theorem isLet_iff (c : Nat) : c ∈ g_LETTERS ↔ isLet c = true := by
  unfold isLet
  simp only [g_LETTERS, List.mem_cons, List.not_mem_nil, or_false, Bool.and_eq_true, decide_eq_true_eq]
  omega
theorem isDig_iff (c : Nat) : c ∈ g_DIGITS ↔ isDig c = true := by
  unfold isDig
  simp only [g_DIGITS, List.mem_cons, List.not_mem_nil, or_false, Bool.and_eq_true, decide_eq_true_eq]
  omega
theorem isWc_iff (c : Nat) : c ∈ g_WORD_CHARACTERS ↔ isWc c = true := by
  unfold isWc isLet isDig
  simp only [g_WORD_CHARACTERS, List.mem_cons, List.not_mem_nil, or_false, Bool.or_eq_true, Bool.and_eq_true, decide_eq_true_eq, beq_iff_eq]
  omega
/-! ### digits -/
theorem digit_lt {b d : Nat} (hb : 1 < b) (hb2 : b ≤ 10) : ∀ (n : Nat) (c : Char), c ∈ Nat.toDigits b n → 48 ≤ c.toNat ∧ c.toNat ≤ 57 := by
  intro n c hc
  have h := Nat.isDigit_of_mem_toDigits (by omega) hb2 hc
  unfold Char.isDigit at h
  simp only [Bool.and_eq_true, decide_eq_true_eq, ge_iff_le] at h
  exact ⟨h.1, h.2⟩
theorem dec_dig (n : Nat) : ∀ c ∈ dec n, isDig c = true := by
  intro c hc
  obtain ⟨d, hd, rfl⟩ := List.mem_map.mp hc
  have := digit_lt (d := 0) (by decide : 1 < 10) (by decide) n d hd
  unfold isDig
  simp only [Bool.and_eq_true, decide_eq_true_eq]
  exact this
theorem dec_ne (n : Nat) : dec n ≠ [] := by
  unfold dec
  intro h
  have := List.map_eq_nil_iff.mp h
  exact Nat.toDigits_ne_nil this
theorem dec_head : ∀ (n : Nat), 0 < n → ∀ c r, dec n = c :: r → c ≠ 48 := by
  intro n
  induction n using Nat.strongRecOn with
  | ind n ih =>
    intro hn c r h
    by_cases hlt : n < 10
    · unfold dec at h
      rw [Nat.toDigits_of_lt_base hlt] at h
      have h1 : (Nat.digitChar n).toNat = c := by
        injection h
      rw [← h1]
      rcases (by omega : n = 1 ∨ n = 2 ∨ n = 3 ∨ n = 4 ∨ n = 5 ∨ n = 6 ∨ n = 7 ∨ n = 8 ∨ n = 9) with h | h | h | h | h | h | h | h | h <;> (subst h; decide)
    · unfold dec at h
      rw [Nat.toDigits_of_base_le (by decide) (by omega), List.map_append] at h
      have e : ∃ r', dec (n / 10) = c :: r' := by
        unfold dec
        cases q : (Nat.toDigits 10 (n / 10)).map Char.toNat with
        | nil => exact absurd q (dec_ne _)
        | cons d r' =>
          rw [q] at h
          injection h with h1 h2
          exact ⟨r', by rw [h1]⟩
      obtain ⟨r', e⟩ := e
      exact ih (n / 10) (by omega) (by omega) c r' e
theorem dec_zero : dec 0 = [48] := by
  unfold dec
  rw [Nat.toDigits_zero]
  rfl
theorem dec_lead {n : Nat} (h : 1 < (dec n).length) : ∀ c r, dec n = c :: r → c ≠ 48 := by
  intro c r e
  by_cases h0 : n = 0
  · subst h0
    rw [dec_zero] at h
    simp at h
  · exact dec_head n (by omega) c r e
theorem intText_dec {n : Nat} (h : n ≤ 10000) : PySem.intText? (mk (dec n)) = some (n : Int) := by
  have e : mk (dec n) = Str.ofString (toString ((n : Nat) : Int)) := by
    rw [str_dec]
    unfold decI
    rw [if_neg (by omega)] <;> rfl
  rw [e]
  refine TL.int_num ?_
  have := dec_len h
  show (dec n).length ≤ 4300
  omega
end Cc
namespace Cc
section
variable {K : PySem.W.Frag} {σ : L2.St} {H : Hp} {Q : VK} {D : Ends} {te : TE} {tl th : TO} {tt : TT} {t u : TS} {v : V} {c : TT}
/-! ### slices, places, while -/
theorem cutS_nat {z : Tx} {a b : Nat} (h1 : a ≤ z.length) (h2 : a ≤ b) : cutS (mk z) (some (a : Int)) (some (b : Int)) = mk ((z.drop a).take (b - a)) := by
  unfold cutS
  rw [HT.sIx_nat, HT.sIx_nat, mk_len, mk_cps, Nat.min_eq_left h1]
  show mk _ = mk _
  congr 1
  by_cases hb : b ≤ z.length
  · rw [Nat.min_eq_left hb]
  · rw [Nat.min_eq_right (by omega)]
    have e1 : (z.drop a).length = z.length - a := List.length_drop
    rw [List.take_of_length_le (by omega), List.take_of_length_le (by omega)]
theorem w_sl {r : V → Option Int → Option Int → Hp → VK → Prop} (h : te σ H fun x H1 => tl σ H1 fun l H2 => th σ H2 fun u H3 => r x l u H3 Q) : tSl r te tl th σ H Q := h
theorem w_part {Q : Option Int → Hp → Prop} (h : te σ H fun x H1 => ∃ i, x = .int i ∧ Q (some i) H1) : tPart te σ H Q := h
theorem w_nopart {Q : Option Int → Hp → Prop} (q : Q none H) : tNoPart σ H Q := q
theorem w_pi {i : Int} {P : Int → Prop} (q : P i) : ∃ j, V.int i = .int j ∧ P j := ⟨i, rfl, q⟩
theorem w_slice {z : Tx} {i j : Int} (a b : Nat) (hi : i = a) (hj : j = b) (hz : z.length ≤ 16777216) (h1 : a ≤ z.length) (h2 : a ≤ b) (q : Q (.str (mk ((z.drop a).take (b - a)))) H) : rSlS (.str (mk z)) (some i) (some j) H Q := by
  subst hi hj
  exact ⟨mk z, rfl, by rw [mk_len]; exact hz, by rw [cutS_nat h1 h2]; exact q⟩
theorem w_ixSn {z : Tx} {j : Int} {c : Nat} (k : Nat) (hj : j = k) (n : z.length ≤ 16777216) (e : z[k]? = some c) (q : Q (.str (mk [c])) H) : rIxS (.str (mk z)) (.int j) H Q := by
  subst hj
  exact w_ixS n (atI_nat e) q
def Turn (W : Nat → L2.St → Hp → Prop) (m : Nat) (tb : TS) (D : Ends) (σ : L2.St) (H : Hp) : Prop := ∃ N : L2.St → Hp → Prop, (∀ σ' H', N σ' H' → ∃ m', m' < m ∧ W m' σ' H') ∧ tb { D with nx := N, ct := N, bk := D.nx } σ H
theorem turn_mk {W : Nat → L2.St → Hp → Prop} {m : Nat} (h : t { D with nx := fun σ' H' => ∃ m', m' < m ∧ W m' σ' H', ct := fun σ' H' => ∃ m', m' < m ∧ W m' σ' H', bk := D.nx } σ H) : Turn W m t D σ H := ⟨_, fun _ _ h => h, h⟩
theorem l_while (W : Nat → L2.St → Hp → Prop) (m0 : Nat) (h0 : W m0 σ H) (hs : ∀ m σ' H', W m σ' H' → c σ' H' fun b H1 => if b = true then Turn W m t { D with nx := u D } σ' H1 else u D σ' H1) : tSeq (tWhile c t) u D σ H :=
  ⟨W, ⟨m0, h0⟩, hs⟩
theorem w_intS {z : Tx} {n : Int} (h : PySem.intText? (mk z) = some n) (hz : z.length ≤ 640) (q : Q (.int n) H) : cIntS [.str (mk z)] H Q := ⟨mk z, n, rfl, h, by rw [mk_len]; exact hz, q⟩
end
theorem drop_get {t w r : Tx} {at_ k : Nat} (h : t.drop at_ = w ++ r) (hk : k < w.length) : t[at_ + k]? = some w[k] := by
  have h1 : (t.drop at_)[k]? = t[at_ + k]? := List.getElem?_drop
  rw [← h1, h, List.getElem?_append_left hk, List.getElem?_eq_getElem hk]
theorem drop_get2 {t w r' : Tx} {c at_ : Nat} (h : t.drop at_ = w ++ c :: r') : t[at_ + w.length]? = some c := by
  have h1 : (t.drop at_)[w.length]? = t[at_ + w.length]? := List.getElem?_drop
  rw [← h1, h, List.getElem?_append_right (Nat.le_refl _)]
  simp
theorem drop_len {t w r : Tx} {at_ : Nat} (h : t.drop at_ = w ++ r) (ha : at_ ≤ t.length) : t.length = at_ + w.length + r.length := by
  have := congrArg List.length h
  rw [List.length_drop, List.length_append] at this
  omega
def sp_end_of : Sp := fun vs H Q _ => ∃ (t cs w r : Tx) (at_ : Nat) (i : Int), vs = [.str (mk t), .int i, .str (mk cs)] ∧ i = at_ ∧ at_ ≤ t.length ∧ t.length ≤ 1000000 ∧ t.drop at_ = w ++ r ∧ (∀ c ∈ w, c ∈ cs) ∧ (∀ c r', r = c :: r' → c ∉ cs) ∧
  ∀ j : Int, j = ((at_ + w.length : Nat) : Int) → RetV (.int j) H Q
theorem pu_end_of {K : PySem.W.Frag} (vs : List V) (H : Hp) (Q : VK) (E : XK) (h : sp_end_of vs H Q E) :
    t_end_of K { nx := fun _ H' => Q .non H', rt := Q } (start n_end_of vs) H := by
  obtain ⟨t, cs, w, r, at_, i, rfl, rfl, ha, ht, hd, hw, hr, q⟩ := h
  have hl := drop_len hd ha
  delta t_end_of
  walk_at "go"
  refine l_while (fun m σ H' => ∃ (k : Nat) (i : Int), k ≤ w.length ∧ m = w.length - k ∧ i = at_ + k ∧ σ = [some (.str (mk t)), some (.int at_), some (.str (mk cs)), some (.int i)] ∧ H' = H) w.length ⟨0, at_, Nat.zero_le _, rfl, by omega, rfl, rfl⟩ ?_
  rintro m σ' H' ⟨k, i, hk, rfl, hi, rfl, rfl⟩
  walk_at "go"
  by_cases hkw : k < w.length
  · refine w_t (decide_eq_true (by omega)) ?_
    walk_at "go"
    refine w_ixSn (at_ + k) (by omega) (by omega) (drop_get hd hkw) ?_
    walk_at "go"
    refine w_t (decide_eq_true (hw _ (List.getElem_mem hkw))) (turn_mk ?_)
    walk_at "go"
    exact ⟨w.length - (k + 1), by omega, k + 1, i + 1, by omega, rfl, by omega, rfl, rfl⟩
  · have hkk : k = w.length := by omega
    subst hkk
    cases r with
    | nil =>
      refine w_f (decide_eq_false (by simp at hl; omega)) ?_
      walk_at "go"
      exact (q i (by omega)).at_
    | cons c r' =>
      refine w_t (decide_eq_true (by simp at hl; omega)) ?_
      walk_at "go"
      refine w_ixSn (at_ + w.length) (by omega) (by omega) (drop_get2 hd) ?_
      walk_at "go"
      refine w_f (decide_eq_false (hr c r' rfl)) ?_
      walk_at "go"
      exact (q i (by omega)).at_
/-! ### a token -/
def kindV : Tk → V
  | .w _ => .str (mk [119, 111, 114, 100])
  | .n _ => .str (mk [110, 117, 109, 98, 101, 114])
  | .s _ => .str (mk [115, 105, 103, 110])
def valV : Tk → V
  | .w x => .str (mk x)
  | .n k => .int (k : Int)
  | .s x => .str (mk x)
def RetT3 (a b : V) (n : Nat) (H : Hp) (Q : VK) : Prop := ∀ p H' (j : Int), j = n → H p = none → Same H H' → H' p = some (.tup [a, b, .int j]) → Q (.ref p) H'
def sp_number_at : Sp := fun vs H Q _ => ∃ (t r : Tx) (at_ k : Nat) (i : Int), vs = [.str (mk t), .int i] ∧ i = at_ ∧ at_ ≤ t.length ∧ t.length ≤ 1000000 ∧ t.drop at_ = dec k ++ r ∧ TokOk (.n k) r ∧ RetT3 (kindV (.n k)) (valV (.n k)) (at_ + (dec k).length) H Q
theorem take_drop_eq {t w r : Tx} {at_ : Nat} (h : t.drop at_ = w ++ r) : (t.drop at_).take (at_ + w.length - at_) = w := by
  rw [Nat.add_sub_cancel_left, h, List.take_left]
theorem pu_number_at {K : PySem.W.Frag} (vs : List V) (H : Hp) (Q : VK) (E : XK) (h : sp_number_at vs H Q E) :
    t_number_at K sp_end_of { nx := fun _ H' => Q .non H', rt := Q } (start n_number_at vs) H := by
  obtain ⟨t, r, at_, k, i, rfl, rfl, ha, ht, hd, ⟨hk, hr⟩, q⟩ := h
  have hl := drop_len hd ha
  have l5 := dec_len hk
  delta t_number_at
  walk_at "go"
  refine ⟨t, g_DIGITS, dec k, r, at_, at_, rfl, rfl, ha, ht, hd, fun c hc => (isDig_iff c).mpr (dec_dig k c hc), fun c r' e hc => ?_, fun j hj H1 e1 => ?_⟩
  · have := hr c r' e
    rw [(isDig_iff c).mp hc] at this
    cases this
  walk_at "go"
  refine w_sl ?_
  walk_at "go"
  refine w_part ?_
  walk_at "go"
  refine w_pi (w_part ?_)
  walk_at "go"
  refine w_pi (w_slice at_ (at_ + (dec k).length) rfl hj (by omega) ha (by omega) ?_)
  rw [take_drop_eq hd]
  walk_at "go"
  refine w_f (decide_eq_false (by omega)) ?_
  walk_at "go"
  have fin : ∀ H1, Same H H1 → (tSeq (tIfS (tTest (tOp rGtI (tCB cIntS (tCons (tVar 3) tNil)) (tC (.int 10000)))) (tRet (tTup (tCons (tC (.str (mk [101, 114, 114, 111, 114]))) (tCons (tC (.str (mk []))) (tCons (tVar 1) tNil))))) tNext)
      (tRet (tTup (tCons (tC (.str (mk [110, 117, 109, 98, 101, 114]))) (tCons (tCB cIntS (tCons (tVar 3) tNil)) (tCons (tVar 2) tNil)))))) { nx := fun _ H' => Q .non H', rt := Q }
      [some (.str (mk t)), some (.int at_), some (.int j), some (.str (mk (dec k)))] H1 := fun H1 e1 => by
    walk_at "go"
    refine w_intS (intText_dec hk) (by omega) ?_
    walk_at "go"
    refine w_f (decide_eq_false (by omega)) ?_
    walk_at "go"
    refine w_intS (intText_dec hk) (by omega) ?_
    walk_at "go"
    rename_i p H2 hp e2 hl2
    exact q p H2 j hj (by walk_at "fr") (by walk_at "sm") hl2
  by_cases h1 : 1 < (dec k).length
  · refine w_t (decide_eq_true (by omega)) ?_
    walk_at "go"
    cases hdk : dec k with
    | nil => exact absurd hdk (dec_ne k)
    | cons c r0 =>
      rw [hdk] at l5
      refine w_ixSn 0 rfl (by omega) rfl ?_
      walk_at "go"
      refine w_f (decide_eq_false (fun z => dec_lead h1 c r0 hdk (by injection z))) ?_
      rw [← hdk]
      exact fin _ e1
  · refine w_f (decide_eq_false (by omega)) ?_
    exact fin _ e1
end Cc
namespace Cc
theorem sg_first : ∀ x ∈ signs, ∃ c x', x = c :: x' ∧ isLet c = false ∧ isDig c = false ∧ c ≠ 10 ∧ c ≠ 32 ∧ x.length ≤ 2 ∧ 1 ≤ x.length := by
  intro x hx
  simp only [signs, List.mem_cons, List.not_mem_nil, or_false] at hx
  rcases hx with h | h | h | h | h | h | h | h | h | h | h | h | h | h | h | h | h <;> (subst h; exact ⟨_, _, rfl, rfl, rfl, by decide, by decide, by decide, by decide⟩)
theorem tok_first {k : Tk} {r : Tx} (h : TokOk k r) : ∃ c x', k.tx = c :: x' ∧ c ≠ 10 ∧ c ≠ 32 ∧ k.tx.length ≤ 12 := by
  cases k with
  | w x =>
    obtain ⟨h1, _⟩ := h
    unfold wordOk at h1
    simp only [Bool.and_eq_true, decide_eq_true_eq] at h1
    cases x with
    | nil => simp at h1
    | cons c x' =>
      have hc : isLet c = true := h1.1.1
      refine ⟨c, x', rfl, ?_, ?_, h1.2⟩
      · rintro rfl; cases hc
      · rintro rfl; cases hc
  | n k =>
    cases hd : dec k with
    | nil => exact absurd hd (dec_ne k)
    | cons c x' =>
      have hc := dec_dig k c (by rw [hd]; exact List.mem_cons_self)
      have := dec_len h.1
      refine ⟨c, x', hd, ?_, ?_, by show (dec k).length ≤ 12; omega⟩
      · rintro rfl; cases hc
      · rintro rfl; cases hc
  | s x =>
    obtain ⟨i, h1, _⟩ := h
    obtain ⟨c, x', e, _, _, a, b, c2, _⟩ := sg_first x (List.mem_of_getElem? h1)
    exact ⟨c, x', e, a, b, by show x.length ≤ 12; omega⟩
def sp_token_at : Sp := fun vs H Q _ => ∃ (t r : Tx) (at_ : Nat) (k : Tk) (i : Int), vs = [.str (mk t), .int i] ∧ i = at_ ∧ at_ ≤ t.length ∧ t.length ≤ 1000000 ∧ t.drop at_ = k.tx ++ r ∧ TokOk k r ∧ RetT3 (kindV k) (valV k) (at_ + k.tx.length) H Q
theorem w_inDec {p : Prop} [Decidable p] {A B : Prop} (h : p) (q : A) : if decide p = true then A else B := w_t (decide_eq_true h) q
theorem w_outDec {p : Prop} [Decidable p] {A B : Prop} (h : ¬ p) (q : B) : if decide p = true then A else B := w_f (decide_eq_false h) q
theorem pu_token_at {K : PySem.W.Frag} (hS : ∀ H, SqT K H (He.ga K "SIGNS") (sgV signs)) (vs : List V) (H : Hp) (Q : VK) (E : XK) (h : sp_token_at vs H Q E) :
    t_token_at K sp_end_of sp_number_at { nx := fun _ H' => Q .non H', rt := Q } (start n_token_at vs) H := by
  obtain ⟨t, r, at_, k, i, rfl, rfl, ha, ht, hd, hk, q⟩ := h
  have hl := drop_len hd ha
  obtain ⟨c0, x0, e0, n10, n32, l12⟩ := tok_first hk
  have hget : t[at_]? = some c0 := by
    have := drop_get (k := 0) hd (by rw [e0]; simp)
    simpa [e0] using this
  delta t_token_at
  walk_at "go"
  refine w_ixSn at_ rfl (by omega) hget ?_
  walk_at "go"
  cases k with
  | w x =>
    obtain ⟨h1, h2⟩ := hk
    have h1' := h1
    unfold wordOk at h1'
    simp only [Bool.and_eq_true, decide_eq_true_eq] at h1'
    have hx : x = c0 :: x0 := e0
    have hc : isLet c0 = true := by
      have := h1'.1.1
      rw [hx] at this
      exact this
    refine w_inDec ((isLet_iff c0).mpr hc) ?_
    walk_at "go"
    refine ⟨t, g_WORD_CHARACTERS, x, r, at_, at_, rfl, rfl, ha, ht, hd, fun c hc => (isWc_iff c).mpr (List.all_eq_true.mp h1'.1.2 c hc), fun c r' e hc => ?_, fun j hj H1 e1 => ?_⟩
    · have := h2 c r' e
      rw [(isWc_iff c).mp hc] at this
      cases this
    walk_at "go"
    refine w_outDec (by have := h1'.2; omega) ?_
    walk_at "go"
    refine w_sl ?_
    walk_at "go"
    refine w_part ?_
    walk_at "go"
    refine w_pi (w_part ?_)
    walk_at "go"
    refine w_pi (w_slice at_ (at_ + x.length) rfl hj (by omega) ha (by omega) ?_)
    rw [take_drop_eq (w := x) hd]
    walk_at "go"
    rename_i p H2 hp e2 hl2
    exact q p H2 j hj (by walk_at "fr") (by walk_at "sm") hl2
  | n m =>
    have hc : isDig c0 = true := dec_dig m c0 (by rw [show dec m = c0 :: x0 from e0]; exact List.mem_cons_self)
    have hnl : ¬ c0 ∈ g_LETTERS := fun z => by
      have := (isLet_iff c0).mp z
      unfold isDig at hc
      unfold isLet at this
      simp only [Bool.and_eq_true, decide_eq_true_eq] at hc this
      omega
    refine w_outDec hnl ?_
    walk_at "go"
    refine w_inDec ((isDig_iff c0).mpr hc) ?_
    walk_at "go"
    exact ⟨t, r, at_, m, at_, rfl, rfl, ha, ht, hd, hk, q⟩
  | s x =>
    obtain ⟨i0, g1, g2, g3⟩ := hk
    obtain ⟨c, x', e, nl, nd, _⟩ := sg_first x (List.mem_of_getElem? g1)
    have hx : x = c0 :: x0 := e0
    rw [hx] at e
    injection e with ec ex
    subst ec
    refine w_outDec (fun z => by rw [(isLet_iff _).mp z] at nl; cases nl) ?_
    walk_at "go"
    refine w_outDec (fun z => by rw [(isDig_iff _).mp z] at nd; cases nd) ?_
    refine l_forT (fun Q q => by walk_at "go"; exact q) (hS H) (fun i σ H' => ∃ w, i ≤ i0 ∧ σ = [some (.str (mk t)), some (.int at_), some (.str (mk [c0])), none, w] ∧ H' = H) ⟨none, Nat.zero_le _, rfl, rfl⟩ (fun _ _ H' _ => hS H') (fun i y σ' H' hy ⟨w, hi, hσ, hH⟩ => ?_) (fun σ' H' ⟨w, hi, hσ, hH⟩ => ?_)
    · subst hσ hH
      unfold sgV at hy
      rw [List.getElem?_map] at hy
      cases hg : signs[i]? with
      | none => rw [hg] at hy; cases hy
      | some g =>
        rw [hg] at hy
        cases hy
        obtain ⟨_, _, _, _, _, _, _, lg, lg1⟩ := sg_first g (List.mem_of_getElem? hg)
        walk_at "go"
        refine w_sl ?_
        walk_at "go"
        refine w_part ?_
        walk_at "go"
        refine w_pi (w_part ?_)
        walk_at "go"
        refine w_pi (w_slice at_ (at_ + g.length) rfl (by omega) (by omega) ha (by omega) ?_)
        have es : (t.drop at_).take (at_ + g.length - at_) = (x ++ r).take g.length := by
          rw [Nat.add_sub_cancel_left, hd] <;> rfl
        rw [es]
        walk_at "go"
        by_cases hii : i = i0
        · subst hii
          rw [hg] at g1
          cases g1
          refine w_inDec g2 ?_
          walk_at "go"
          rename_i p H2 hp e2 hl2
          exact q p H2 _ (by show _ = ((at_ + x.length : Nat) : Int); omega) (by walk_at "fr") (by walk_at "sm") hl2
        · refine w_outDec (g3 i g (by omega) hg) ?_
          exact ⟨some (.str (mk g)), by omega, rfl, rfl⟩
    · have h17 := (List.getElem?_eq_some_iff.mp g1).1
      rw [sgV_len] at hi
      omega
/-! ### all tokens -/
def TokAt (K : PySem.W.Frag) (H : Hp) (v : V) (k : Tk) : Prop := ∃ a l c, v = .ref a ∧ SqT K H a [kindV k, valV k, .int l, .int c]
def ToksAt (K : PySem.W.Frag) (H : Hp) (vs : List V) (ts : List Tk) : Prop := vs.length = ts.length ∧ ∀ (i : Nat) (v : V) (k : Tk), vs[i]? = some v → ts[i]? = some k → TokAt K H v k
theorem toks_keep {K : PySem.W.Frag} {H H' : Hp} {vs : List V} {ts : List Tk} (e : ∀ a xs, SqT K H a xs → SqT K H' a xs) (h : ToksAt K H vs ts) : ToksAt K H' vs ts :=
  ⟨h.1, fun i v k a b => let ⟨p, l, c, q, r⟩ := h.2 i v k a b; ⟨p, l, c, q, e _ _ r⟩⟩
theorem toks_snoc {K : PySem.W.Frag} {H : Hp} {vs : List V} {ts : List Tk} {v : V} {k : Tk} (h : ToksAt K H vs ts) (h2 : TokAt K H v k) : ToksAt K H (vs ++ [v]) (ts ++ [k]) := by
  refine ⟨by simp [h.1], fun i x y a b => ?_⟩
  by_cases hi : i < vs.length
  · rw [List.getElem?_append_left hi] at a
    rw [List.getElem?_append_left (by have := h.1; omega)] at b
    exact h.2 i x y a b
  · have h1 := (List.getElem?_eq_some_iff.mp a).1
    have e : i = vs.length := by simp at h1; omega
    subst e
    rw [List.getElem?_append_right (Nat.le_refl _)] at a
    rw [List.getElem?_append_right (by have := h.1; omega)] at b
    have e2 : vs.length - ts.length = 0 := by have := h.1; omega
    rw [e2] at b
    rw [Nat.sub_self] at a
    cases a
    cases b
    exact h2
def sp_tokens (K : PySem.W.Frag) : Sp := fun vs H Q _ => ∃ (t : Tx) (ts : List Tk), vs = [.str (mk t)] ∧ Lex t ts ∧ t.length ≤ 1000000 ∧ ∀ p ws H', H p = none → Same H H' → H' p = some (.tup ws) → ToksAt K H' ws ts → Q (.ref p) H'
theorem pu_tokens {K : PySem.W.Frag} (vs : List V) (H : Hp) (Q : VK) (E : XK) (h : sp_tokens K vs H Q E) :
    t_tokens K sp_token_at { nx := fun _ H' => Q .non H', rt := Q } (start n_tokens vs) H := by
  obtain ⟨t, ts, rfl, hL, ht, q⟩ := h
  delta t_tokens
  walk_at "go"
  rename_i L H1 hL1 e1 hl1
  refine l_while (fun m σ H' => ∃ (at_ : Nat) (i l s : Int) (done rest : List Tk) (ws : List V) (w5 w6 w7 w8 : Option V), at_ ≤ t.length ∧ m = t.length - at_ ∧ i = at_ ∧ done ++ rest = ts ∧ done.length ≤ at_ ∧ Lex (t.drop at_) rest ∧ ToksAt K H' ws done ∧ Same H H' ∧ H' L = some (.lst ws) ∧
    σ = [some (.str (mk t)), some (.ref L), some (.int i), some (.int l), some (.int s), w5, w6, w7, w8]) t.length ⟨0, 0, 1, 0, [], ts, [], none, none, none, none, Nat.zero_le _, rfl, rfl, rfl, Nat.zero_le _, hL, ⟨rfl, fun i v k a b => by simp at a⟩, e1, hl1, rfl⟩ ?_
  rintro m σ' H' ⟨at_, i, l, s, done, rest, ws, w5, w6, w7, w8, ha, rfl, rfl, hdr, hdl, hLx, hws, hS, hlst, rfl⟩
  walk_at "go"
  generalize hdrop : t.drop at_ = u at hLx
  cases hLx with
  | nil =>
    have hend : at_ = t.length := by
      have := congrArg List.length hdrop
      rw [List.length_drop, List.length_nil] at this
      omega
    refine w_outDec (by omega) ?_
    walk_at "go"
    refine w_tupL (SqL.of hlst) fun p H2 hp e2 hl2 => ?_
    rw [List.append_nil] at hdr
    subst hdr
    exact q p ws H2 (by walk_at "fr") (by walk_at "sm") hl2 (toks_keep (fun _ _ z => same_sqt e2 z) hws)
  | @sp r ts' hr =>
    have hl := drop_len (w := [32]) (r := r) hdrop ha
    have hg : t[at_]? = some 32 := by simpa using drop_get (w := [32]) (k := 0) hdrop (by simp)
    refine w_inDec (by simp at hl; omega) (turn_mk ?_)
    walk_at "go"
    refine w_ixSn at_ rfl (by omega) hg ?_
    walk_at "go"
    refine ⟨t.length - (at_ + 1), by simp at hl; omega, at_ + 1, _, l, s, done, rest, ws, _, _, _, _, by simp at hl; omega, rfl, by omega, hdr, by omega, ?_, hws, hS, hlst, rfl⟩
    have : t.drop (at_ + 1) = r := by
      rw [← List.drop_drop, hdrop] <;> rfl
    rw [this]
    exact hr
  | @nl r ts' hr =>
    have hl := drop_len (w := [10]) (r := r) hdrop ha
    have hg : t[at_]? = some 10 := by simpa using drop_get (w := [10]) (k := 0) hdrop (by simp)
    refine w_inDec (by simp at hl; omega) (turn_mk ?_)
    walk_at "go"
    refine w_ixSn at_ rfl (by omega) hg ?_
    walk_at "go"
    refine ⟨t.length - (at_ + 1), by simp at hl; omega, at_ + 1, _, _, _, done, rest, ws, _, _, _, _, by simp at hl; omega, rfl, by omega, hdr, by omega, ?_, hws, hS, hlst, rfl⟩
    have : t.drop (at_ + 1) = r := by
      rw [← List.drop_drop, hdrop] <;> rfl
    rw [this]
    exact hr
  | @tok r ts' k hk hr =>
    have hl := drop_len hdrop ha
    obtain ⟨c0, x0, e0, n10, n32, l12⟩ := tok_first hk
    have l1 : 1 ≤ k.tx.length := by rw [e0]; simp
    have hg : t[at_]? = some c0 := by
      have := drop_get (k := 0) hdrop (by omega)
      simpa [e0] using this
    refine w_inDec (by omega) (turn_mk ?_)
    walk_at "go"
    refine w_ixSn at_ rfl (by omega) hg ?_
    walk_at "go"
    refine w_outDec (fun z => n10 (by injection z)) ?_
    walk_at "go"
    refine w_outDec (fun z => n32 (by injection z)) ?_
    walk_at "go"
    refine ⟨t, r, at_, k, at_, rfl, rfl, ha, ht, hdrop, hk, fun p H2 j hj hp e2 hl2 => ?_⟩
    refine ⟨_, _, rfl, SqT.of hl2, rfl, _, _, rfl, _, _, rfl, _, _, rfl, rfl, ?_⟩
    walk_at "go"
    rename_i p3 H3 hp3 e3 hl3
    have hl3' : H3 L = some (.lst ws) := by walk_at "at"
    have e3' : Same H' H3 := by walk_at "sm"
    have hws3 : ToksAt K H3 (ws ++ [.ref p3]) (done ++ [k]) := toks_snoc (toks_keep (fun _ _ z => same_sqt e3' z) hws) ⟨p3, l, _, rfl, SqT.of hl3⟩
    refine w_app2 (H0 := H) (hS.trans e3') hL1 hl3' (by have := hws.1; omega) fun H4 e4 f4 hl4 => ?_
    have hk1 : kindV k ≠ .str (mk [101, 114, 114, 111, 114]) := by
      cases k <;> (intro z; have := mk_inj (V.str.inj z); revert this; decide)
    walk_at "go"
    refine ⟨by cases k <;> rfl, ?_⟩
    refine w_bl2 ?_
    refine w_f (decide_eq_false hk1) ?_
    walk_at "go"
    refine ⟨t.length - (at_ + k.tx.length), by omega, at_ + k.tx.length, j, l, s, done ++ [k], ts', _, _, _, _, _, by omega, rfl, hj, by rw [← hdr]; simp, by simp; omega, ?_, toks_keep (fun _ _ z => f4.sqt (noTup_lst hl3') z) hws3, e4, hl4, rfl⟩
    have : t.drop (at_ + k.tx.length) = r := by
      rw [← List.drop_drop, hdrop, List.drop_left]
    rw [this]
    exact hr
end Cc
namespace Cc
open PySem PySem.Spec PyProof.Rows L2
/-! ### a reader: what it reads, where it stands -/
abbrev RC (K : PySem.W.Frag) : Addr := He.ga K "Reader"
def rf (F : Addr) (e : V) (i : Int) : List (Str × V) := [("found", .ref F), ("end", e), ("at", .int i)]
def RdAt (K : PySem.W.Frag) (H : Hp) (r : Addr) (T : List Tk) (i : Nat) : Prop := ∃ (dx F : Addr) (e : V) (ws : List V) (j : Int), j = i ∧ H r = some (.ins (RC K) dx (rf F e j)) ∧ SqT K H F ws ∧ ToksAt K H ws T
theorem rf_found (F : Addr) (e : V) (i : Int) : (rf F e i).lookup ("found" : Str) = some (V.ref F) := by
  unfold rf
  rw [List.lookup_cons, show (("found" : Str) == "found") = true by decide +kernel]
theorem rf_at (F : Addr) (e : V) (i : Int) : (rf F e i).lookup ("at" : Str) = some (V.int i) := by
  unfold rf
  rw [List.lookup_cons, show (("at" : Str) == "found") = false by decide +kernel, List.lookup_cons, show (("at" : Str) == "end") = false by decide +kernel, List.lookup_cons, show (("at" : Str) == "at") = true by decide +kernel]
theorem rf_no (F : Addr) (e : V) (i : Int) {m : Str} (h : ((m == ("found" : Str)) || (m == ("end" : Str)) || (m == ("at" : Str))) = false) : (rf F e i).lookup m = none := by
  simp only [Bool.or_eq_false_iff] at h
  unfold rf
  rw [List.lookup_cons, h.1.1, List.lookup_cons, h.1.2, List.lookup_cons, h.2] <;> rfl
theorem rf_put (F : Addr) (e : V) (i k : Int) : putF "at" (.int k) (rf F e i) = rf F e k := by
  unfold rf putF
  rw [if_neg (by decide +kernel)]
  unfold putF
  rw [if_neg (by decide +kernel)]
  unfold putF
  rw [if_pos rfl]
theorem putF_len (f : Str) (v : V) : ∀ fs : List (Str × V), (putF f v fs).length ≤ fs.length + 1
  | [] => Nat.le_refl _
  | (g, x) :: r => by
    have := putF_len f v r
    unfold putF
    split <;> (simp only [List.length_cons]; omega)
theorem rf_make (F E0 : Addr) : putF "at" (.int 0) (putF "end" (.ref E0) (putF "found" (.ref F) [])) = rf F (.ref E0) 0 := by
  have a1 : putF "found" (.ref F) [] = [(("found" : Str), V.ref F)] := rfl
  have a2 : putF "end" (.ref E0) [(("found" : Str), V.ref F)] = [(("found" : Str), V.ref F), (("end" : Str), V.ref E0)] := by
    unfold putF
    rw [if_neg (by decide +kernel)]
    rfl
  have a3 : putF "at" (.int 0) [(("found" : Str), V.ref F), (("end" : Str), V.ref E0)] = [(("found" : Str), V.ref F), (("end" : Str), V.ref E0), (("at" : Str), V.int 0)] := by
    unfold putF
    rw [if_neg (by decide +kernel)]
    unfold putF
    rw [if_neg (by decide +kernel)]
    rfl
  rw [a1, a2, a3] <;> rfl
theorem rd_keep {K : PySem.W.Frag} {H H' : Hp} {r : Addr} {T : List Tk} {i : Nat} (e : ∀ a xs, SqT K H a xs → SqT K H' a xs) (e2 : ∀ o, H r = some o → H' r = some o) (h : RdAt K H r T i) : RdAt K H' r T i := by
  obtain ⟨dx, F, x, ws, j, h1, h2, h3, h4⟩ := h
  exact ⟨dx, F, x, ws, j, h1, e2 _ h2, e _ _ h3, toks_keep e h4⟩
theorem rd_same {K : PySem.W.Frag} {H H' : Hp} {r : Addr} {T : List Tk} {i : Nat} (e : Same H H') (h : RdAt K H r T i) : RdAt K H' r T i := rd_keep (fun _ _ z => same_sqt e z) (fun _ z => e _ _ z) h
theorem rd_fx {K : PySem.W.Frag} {H H' : Hp} {r p : Addr} {T : List Tk} {i : Nat} (e : Fx p H H') (n : NoTup H p) (ne : r ≠ p) (h : RdAt K H r T i) : RdAt K H' r T i := rd_keep (fun _ _ z => e.sqt n z) (fun _ z => e _ _ ne z) h
theorem rd_no {K : PySem.W.Frag} {H : Hp} {r : Addr} {T : List Tk} {i : Nat} (h : RdAt K H r T i) : NoTup H r := by
  obtain ⟨dx, F, x, ws, j, h1, h2, h3, h4⟩ := h
  exact noTup_ins h2
theorem rd_some {K : PySem.W.Frag} {H : Hp} {r : Addr} {T : List Tk} {i : Nat} (h : RdAt K H r T i) : ∃ o, H r = some o := by
  obtain ⟨dx, F, x, ws, j, h1, h2, h3, h4⟩ := h
  exact ⟨_, h2⟩
theorem fx_mut {r : Addr} {H H' : Hp} {p : Addr} {o : HO} (e : Fx r H H') (h : H p = none) : Fx r H (upd H' p o) := fun b u n q => by
  rw [upd_ne (ne_of_none q h)]
  exact e b u n q
theorem fx_free {r : Addr} {H H' : Hp} {p : Addr} (e : Fx r H H') (ne : p ≠ r) (h : H' p = none) : H p = none := by
  cases q : H p with
  | none => rfl
  | some o =>
    rw [e p o ne q] at h
    cases h
section
variable {K : PySem.W.Frag} {σ : L2.St} {H : Hp} {Q : VK} {tr : TA} {ta : TE} {r : Addr} {T : List Tk} {i : Nat}
theorem w_rdm {m : Str} {sp : Sp} {E : XK} (h : RdAt K H r T i) (hm : ((m == ("found" : Str)) || (m == ("end" : Str)) || (m == ("at" : Str))) = false) (q : tr σ H fun vs H2 => sp (.ref r :: vs) H2 Q E) :
    ∃ a dx fs, V.ref r = .ref a ∧ H a = some (.ins (RC K) dx fs) ∧ fs.lookup m = none ∧ tr σ H fun vs H2 => sp (.ref r :: vs) H2 Q E := by
  obtain ⟨dx, F, x, ws, j, h1, h2, h3, h4⟩ := h
  exact ⟨r, dx, _, rfl, h2, rf_no _ _ _ hm, q⟩
/-- the fields of a reader, as the class has none of these names -/
structure RdCls (K : PySem.W.Frag) : Prop where
  cl : Cls K (RC K)
  found : NoAttr K (RC K) "found"
  end_ : NoAttr K (RC K) "end"
  at_ : NoAttr K (RC K) "at"
/-- a field of x -/
def FldR (K : PySem.W.Frag) (x : V) (f : Str) (H : Hp) (Q : VK) : Prop := ∃ a C dx fs v, x = .ref a ∧ H a = some (.ins C dx fs) ∧ Cls K C ∧ NoAttr K C f ∧ fs.lookup f = some v ∧ Q v H
theorem w_fld {f : Str} (h : ta σ H fun x H1 => FldR K x f H1 Q) : tFld K ta f σ H Q := h
end
def kindAt (T : List Tk) (i : Nat) : V := match T[i]? with
  | some k => kindV k
  | none => .str (mk [])
def valAt (T : List Tk) (i : Nat) : V := match T[i]? with
  | some k => valV k
  | none => .str (mk [])
def isS (T : List Tk) (i : Nat) (x : Tx) : Bool := match T[i]? with
  | some (.s y) => decide (y = x)
  | _ => false
def isW (T : List Tk) (i : Nat) (x : Tx) : Bool := match T[i]? with
  | some (.w y) => decide (y = x)
  | _ => false
/-- behind a reading: all but the reader is as it was, it stands at i -/
def RetR (K : PySem.W.Frag) (r : Addr) (T : List Tk) (i : Nat) (v : V) (H : Hp) (Q : VK) : Prop := ∀ H', Fx r H H' → RdAt K H' r T i → Q v H'
/-- .. handing back a datum -/
def RetD (K : PySem.W.Frag) (r : Addr) (T : List Tk) (i : Nat) (d : PyData) (H : Hp) (Q : VK) : Prop := ∀ v H', Fx r H H' → RdAt K H' r T i → Dp K H' v d → Q v H'
def sp_end_place : Sp := fun vs H Q _ => ∃ t : Tx, vs = [.str (mk t)] ∧ t.length ≤ 1000000 ∧ ∀ p H', H p = none → Same H H' → (∃ ws, H' p = some (.tup ws)) → Q (.ref p) H'
def sp_kind (K : PySem.W.Frag) : Sp := fun vs H Q _ => ∃ r T i, vs = [.ref r] ∧ RdAt K H r T i ∧ RetV (kindAt T i) H Q
def sp_value (K : PySem.W.Frag) : Sp := fun vs H Q _ => ∃ r T i, vs = [.ref r] ∧ RdAt K H r T i ∧ RetV (valAt T i) H Q
def sp_is_sign (K : PySem.W.Frag) : Sp := fun vs H Q _ => ∃ r T i x, vs = [.ref r, .str (mk x)] ∧ RdAt K H r T i ∧ RetV (.bl (isS T i x)) H Q
def sp_is_word (K : PySem.W.Frag) : Sp := fun vs H Q _ => ∃ r T i x, vs = [.ref r, .str (mk x)] ∧ RdAt K H r T i ∧ RetV (.bl (isW T i x)) H Q
def sp_step (K : PySem.W.Frag) : Sp := fun vs H Q _ => ∃ r T i, vs = [.ref r] ∧ RdAt K H r T i ∧ RetR K r T (i + 1) .non H Q
def sp_need_sign (K : PySem.W.Frag) : Sp := fun vs H Q _ => ∃ r T i x, vs = [.ref r, .str (mk x)] ∧ RdAt K H r T i ∧ T[i]? = some (.s x) ∧ RetR K r T (i + 1) .non H Q
def sp_need_word (K : PySem.W.Frag) : Sp := fun vs H Q _ => ∃ r T i x, vs = [.ref r, .str (mk x)] ∧ RdAt K H r T i ∧ T[i]? = some (.w x) ∧ RetR K r T (i + 1) .non H Q
def sp_need_name (K : PySem.W.Frag) : Sp := fun vs H Q _ => ∃ r T i x, vs = [.ref r] ∧ RdAt K H r T i ∧ T[i]? = some (.w x) ∧ nameOk x = true ∧ RetR K r T (i + 1) (.str (mk x)) H Q
def sp_never : Sp := fun _ _ _ _ => False
def sp_init (K : PySem.W.Frag) : Sp := fun vs H Q _ => ∃ r dx t T, vs = [.ref r, .str (mk t)] ∧ H r = some (.ins (RC K) dx []) ∧ Lex t T ∧ t.length ≤ 1000000 ∧ RetR K r T 0 .non H Q
end Cc
end
section
open PySem PySem.Spec PyProof.Rows L2
/-! ### small hands: what stands, sizes, one step of a reading -/
open Cc L2 in
local macro_rules | `(tactic| walk_at "sm") => `(tactic| first | exact L2.Same.refl _ | assumption | (refine' L2.Same.trans ?l ?r; (case r => assumption); (case l => walk_at "sm")))
open Cc L2 in
local macro_rules | `(tactic| walk_at "tup") => `(tactic| first | assumption | exact SqT.of (by assumption) | (refine' same_sqt ?e ?h; (case h => first | assumption | exact SqT.of (by assumption)); (case e => walk_at "sm")))
open Cc L2 in
local macro_rules | `(tactic| walk_at "lst") => `(tactic| first | assumption | exact SqL.of (by assumption) | (refine' L2.Same.seq ?e ?h; (case h => first | assumption | exact SqL.of (by assumption)); (case e => walk_at "sm")))
open Cc L2 in
local macro_rules | `(tactic| walk_at "at") => `(tactic| first | assumption | exact upd_same | (refine' same_at ?e ?h; (case h => assumption); (case e => walk_at "sm")))
open Cc L2 in
local macro_rules | `(tactic| walk_at "fr") => `(tactic| first | assumption | (refine' L2.Same.free ?e ?h; (case h => assumption); (case e => walk_at "sm")))
open Cc L2 in
local macro_rules | `(tactic| walk_at "ext") => `(tactic| ((with_reducible refine' w_ext ?e ?f ?h ?g ?n ?_); (case e => walk_at "sm"); (case f => walk_at "fr"); (case h => walk_at "at"); (case g => walk_at "at"); (case n => walk_at "sz"); intro H' e' h'))
open Cc L2 in
local macro_rules | `(tactic| walk_at "app") => `(tactic| ((with_reducible refine' w_app ?e ?f ?h ?n ?_); (case e => walk_at "sm"); (case f => walk_at "fr"); (case h => walk_at "at"); (case n => walk_at "sz"); intro H' e' h'))
open Cc L2 in
local macro_rules | `(tactic| walk_at "plain") => `(tactic| first | exact ex_plain _ | exact co_plain _ | exact sm_plain _ | exact sms_plain _ | exact pr_plain _ | exact pg_plain _ | rfl | assumption)
open Cc L2 in
local macro_rules | `(tactic| walk_at "dp") => `(tactic| first | assumption | exact Dp.str _ | exact Dp.int _ | exact Dp.non | (refine' dp_same ?e ?p ?h; (case h => assumption); (case e => walk_at "sm"); (case p => walk_at "plain")))
open Cc L2 in
local macro_rules | `(tactic| walk_at "sz") => `(tactic| first | omega | (simp only [List.length_append, List.length_cons, List.length_nil, sgV_len, List.length_replicate, List.length_map]; omega))
open Cc L2 in
local macro_rules | `(tactic| walk_at "rd") => `(tactic| first | assumption | (refine' rd_same ?e ?h; (case h => assumption); (case e => walk_at "sm")))
open Cc L2 in
local macro_rules | `(tactic| walk_at "fx") => `(tactic| first | exact Fx.refl _ | assumption | exact same_fx (by assumption) | (refine' Fx.trans ?l ?r; (case r => first | assumption | exact same_fx (by assumption)); (case l => walk_at "fx")))
open Cc L2 in
local macro_rules | `(tactic| walk_at "dpf") => `(tactic| first | assumption | exact Dp.str _ | exact Dp.int _ | exact Dp.non | (refine' dp_fx ?e ?n ?p ?h; (case h => assumption); (case n => refine' rd_no ?z; (case z => walk_at "rd")); (case e => walk_at "fx"); (case p => walk_at "plain")))
open Cc L2 in
local macro_rules | `(tactic| walk_at "szi") => `(tactic| (simp only [four, List.length_append, List.length_cons, List.length_nil]; omega))
open Cc L2 in
local macro_rules | `(tactic| walk_at "go1") => `(tactic| first
  | ((with_reducible refine' w_var ?h ?_); (case h => exact rfl))
  | with_reducible refine' w_c ?_
  | with_reducible refine' w_op ?_
  | with_reducible refine' w_cons ?_
  | with_reducible refine' w_nil ?_
  | ((with_reducible refine' w_ixT ?h ?e ?_); (case h => walk_at "tup"); (case e => first | exact rfl | exact atI_zero))
  | with_reducible refine' w_eqS ?_
  | ((with_reducible refine' w_addS ?h ?_); (case h => walk_at "sz"))
  | with_reducible refine' w_test ?_
  | with_reducible refine' w_B ?_
  | with_reducible refine' w_bl ?_
  | with_reducible refine' w_bl2 ?_
  | with_reducible refine' s_set ?_
  | with_reducible refine' s_when ?_
  | with_reducible refine' s_whenl ?_
  | with_reducible refine' s_if ?_
  | with_reducible refine' s_ifl ?_
  | with_reducible refine' s_ret ?_
  | with_reducible refine' s_drop ?_
  | with_reducible refine' s_dropl ?_
  | with_reducible refine' s_setl ?_
  | with_reducible refine' w_t (by decide) ?_
  | with_reducible refine' w_f (by decide) ?_
  | with_reducible refine' w_t (by with_unfolding_all exact rfl) ?_
  | with_reducible refine' w_f (by with_unfolding_all exact rfl) ?_
  | with_reducible refine' w_I0 ?_
  | with_reducible refine' w_eqI ?_
  | with_reducible refine' w_neS ?_
  | with_reducible refine' w_call ?_
  | with_reducible refine' w_callB ?_
  | with_reducible refine' w_not ?_
  | with_reducible refine' w_and ?_
  | with_reducible refine' w_or ?_
  | with_reducible refine' w_andV ?_
  | with_reducible refine' w_orV ?_
  | with_reducible refine' w_notV ?_
  | with_reducible refine' w_if ?_
  | with_reducible refine' w_m1 ?_
  | with_reducible refine' w_m1' ?_
  | with_reducible refine' w_tup ?_
  | with_reducible refine' w_lst ?_
  | ((with_reducible refine' w_newT ?n ?_); (case n => exact Nat.le_of_ble_eq_true rfl); intro p H' hp hs ht)
  | ((with_reducible refine' w_newL ?n ?_); (case n => exact Nat.le_of_ble_eq_true rfl); intro p H' hp hs ht)
  | ((with_reducible refine' w_in (Or.inr ?h) ?x ?s ?_); (case h => walk_at "tup"); (case x => exact rfl); (case s => exact rfl))
  | ((with_reducible refine' w_in (Or.inl ?h) ?x ?s ?_); (case h => walk_at "lst"); (case x => exact rfl); (case s => exact rfl))
  | with_reducible refine' w_isNone ?_
  | with_reducible refine' w_un ?_
  | with_reducible refine' w_neg ?_
  | with_reducible refine' w_inSign ?_
  | ((with_reducible refine' w_lenS ?h ?_); (case h => walk_at "sz"))
  | ((with_reducible refine' w_lenT ?h ?_); (case h => walk_at "tup"))
  | ((with_reducible refine' w_lenL ?h ?_); (case h => walk_at "lst"))
  | with_reducible refine' w_int1 ?_
  | with_reducible refine' w_abs ?_
  | ((with_reducible refine' w_strI ?h ?_); (case h => walk_at "sz"))
  | with_reducible refine' s_asg ?_
  | with_reducible refine' s_asgl ?_
  | with_reducible refine' w_bm ?_
  | ((with_reducible refine' w_tyL ?h ?_); (case h => walk_at "lst"))
  | ((with_reducible refine' w_cat ?h ?g ?n ?_); (case h => walk_at "at"); (case g => walk_at "at"); (case n => walk_at "sz"); intro p H' hp hs ht)
  | with_reducible refine' w_meth ?_
  | ((with_reducible refine' w_rdm ?h ?m ?_); (case h => walk_at "rd"); (case m => decide +kernel)))
open Cc L2 in
local macro_rules | `(tactic| walk_at "go") => `(tactic| (walk_at "go1"; repeat walk_at "go1"))
namespace Cc
theorem split_parts {K : PySem.W.Frag} {t : Tx} (ht : t.length ≤ 1000000) : ∃ ys : List V, ∃ z : Tx, (Txt.split (mk t) (mk [10])).map V.str = ys ++ [.str (mk z)] ∧ z.length ≤ 1000000 ∧ ys.length ≤ 1000002 := by
  have h1 := PyProof.Rows.split_pos (mk t) (mk [10])
  have h2 := PyProof.Rows.split_le (mk t) (mk [10])
  rw [mk_len] at h2
  generalize hs : Txt.split (mk t) (mk [10]) = ss at *
  have hne : ss ≠ [] := by
    intro z
    rw [z] at h1
    simp at h1
  have e := (List.dropLast_concat_getLast hne).symm
  refine ⟨ss.dropLast.map V.str, (ss.getLast hne).cps.toList, ?_, ?_, ?_⟩
  · conv => lhs; rw [e]
    rw [List.map_append, List.map_cons, List.map_nil, ← of_mk]
  · have := PyProof.Rows.part_short (x := mk t) (y := mk [10]) (a := ss.getLast hne) (by rw [hs]; exact List.getLast_mem hne)
    rw [mk_len] at this
    show (ss.getLast hne).cps.toList.length ≤ _
    rw [Array.length_toList]
    exact Nat.le_trans this ht
  · rw [List.length_map, List.length_dropLast]
    omega
theorem pu_end_place {K : PySem.W.Frag} (vs : List V) (H : Hp) (Q : VK) (E : XK) (h : sp_end_place vs H Q E) :
    t_end_place K { nx := fun _ H' => Q .non H', rt := Q } (start n_end_place vs) H := by
  obtain ⟨t, rfl, ht, q⟩ := h
  obtain ⟨ys, z, hs, hz, hy⟩ := split_parts (K := K) ht
  delta t_end_place
  walk_at "go"
  refine ⟨mk t, mk [10], rfl, rfl, by rw [mk_len]; rfl, by rw [mk_len]; show t.length + 2 ≤ 16777216; omega, fun p hp => ?_⟩
  rw [hs]
  have e1 := same_upd hp (.lst (ys ++ [.str (mk z)]))
  have hl : upd H p (.lst (ys ++ [.str (mk z)])) p = some (.lst (ys ++ [.str (mk z)])) := upd_same
  generalize upd H p (.lst (ys ++ [.str (mk z)])) = H1 at e1 hl ⊢
  walk_at "go"
  refine w_ixL (SqL.of hl) (atI_last ys _) ?_
  walk_at "go"
  rename_i p2 H2 hp2 e2 hl2
  exact q p2 H2 (by walk_at "fr") (by walk_at "sm") ⟨_, hl2⟩
theorem pu_Reader_init {K : PySem.W.Frag} (C : RdCls K) (vs : List V) (H : Hp) (Q : VK) (E : XK) (h : sp_init K vs H Q E) :
    t_Reader_init K (sp_tokens K) sp_end_place { nx := fun _ H' => Q .non H', rt := Q } (start n_Reader_init vs) H := by
  obtain ⟨r, dx, t, T, rfl, hr, hL, ht, q⟩ := h
  delta t_Reader_init
  refine s_fld ?_
  walk_at "go"
  refine ⟨t, T, rfl, hL, ht, fun F ws H1 hF e1 hf hT => ?_⟩
  walk_at "go"
  refine ⟨r, RC K, dx, [], rfl, e1 _ _ hr, C.cl, C.found, by decide, s_fld ?_⟩
  have n1 : NoTup H1 r := noTup_ins (e1 _ _ hr)
  have f2 : Fx r H1 (upd H1 r (.ins (RC K) dx (putF "found" (.ref F) []))) := fx_upd
  have h2 : upd H1 r (.ins (RC K) dx (putF "found" (.ref F) [])) r = some (.ins (RC K) dx (putF "found" (.ref F) [])) := upd_same
  generalize upd H1 r (.ins (RC K) dx (putF "found" (.ref F) [])) = H2 at f2 h2 ⊢
  walk_at "go"
  refine ⟨t, rfl, ht, fun E0 H3 hE e3 _ => ?_⟩
  walk_at "go"
  refine ⟨r, RC K, dx, _, rfl, e3 _ _ h2, C.cl, C.end_, by have := putF_len "found" (.ref F) []; simp only [List.length_nil] at this; omega, s_fldl ?_⟩
  have n3 : NoTup H3 r := noTup_ins (e3 _ _ h2)
  have f4 : Fx r H3 (upd H3 r (.ins (RC K) dx (putF "end" (.ref E0) (putF "found" (.ref F) [])))) := fx_upd
  have h4 : upd H3 r (.ins (RC K) dx (putF "end" (.ref E0) (putF "found" (.ref F) []))) r = some (.ins (RC K) dx (putF "end" (.ref E0) (putF "found" (.ref F) []))) := upd_same
  generalize upd H3 r (.ins (RC K) dx (putF "end" (.ref E0) (putF "found" (.ref F) []))) = H4 at f4 h4 ⊢
  walk_at "go"
  refine ⟨r, RC K, dx, _, rfl, h4, C.cl, C.at_, by have h0 := putF_len "found" (.ref F) []; have h1 := putF_len "end" (.ref E0) (putF "found" (.ref F) []); simp only [List.length_nil] at h0; omega, ?_⟩
  have n4 : NoTup H4 r := noTup_ins h4
  have f5 : Fx r H4 (upd H4 r (.ins (RC K) dx (putF "at" (.int 0) (putF "end" (.ref E0) (putF "found" (.ref F) []))))) := fx_upd
  have h5 : upd H4 r (.ins (RC K) dx (putF "at" (.int 0) (putF "end" (.ref E0) (putF "found" (.ref F) [])))) r = some (.ins (RC K) dx (putF "at" (.int 0) (putF "end" (.ref E0) (putF "found" (.ref F) [])))) := upd_same
  generalize upd H4 r (.ins (RC K) dx (putF "at" (.int 0) (putF "end" (.ref E0) (putF "found" (.ref F) [])))) = H5 at f5 h5 ⊢
  rw [rf_make] at h5
  refine q H5 ((((same_fx e1).trans f2).trans ((same_fx e3).trans f4)).trans f5) ⟨dx, F, .ref E0, ws, 0, rfl, h5, ?_, ?_⟩
  · exact f5.sqt n4 (f4.sqt n3 (same_sqt e3 (f2.sqt n1 (SqT.of hf))))
  · exact toks_keep (fun _ _ z => f5.sqt n4 (f4.sqt n3 (same_sqt e3 (f2.sqt n1 z)))) hT
theorem w_fldR {K : PySem.W.Frag} {H : Hp} {Q : VK} {r dx F : Addr} {e : V} {j : Int} {f : Str} {v : V} (C : Cls K (RC K)) (N : NoAttr K (RC K) f) (h : H r = some (.ins (RC K) dx (rf F e j))) (l : (rf F e j).lookup f = some v) (q : Q v H) :
    FldR K (.ref r) f H Q := ⟨r, RC K, dx, _, v, rfl, h, C, N, l, q⟩
theorem pu_Reader_kind {K : PySem.W.Frag} (C : RdCls K) (vs : List V) (H : Hp) (Q : VK) (E : XK) (h : sp_kind K vs H Q E) :
    t_Reader_kind K { nx := fun _ H' => Q .non H', rt := Q } (start n_Reader_kind vs) H := by
  obtain ⟨r, T, i, rfl, ⟨dx, F, e, ws, j, rfl, h1, h2, h3⟩, q⟩ := h
  delta t_Reader_kind
  walk_at "go"
  refine w_fld ?_
  walk_at "go"
  refine w_fldR C.cl C.at_ h1 (rf_at _ _ _) ?_
  walk_at "go"
  refine w_fld ?_
  walk_at "go"
  refine w_fldR C.cl C.found h1 (rf_found _ _ _) ?_
  walk_at "go"
  unfold kindAt at q
  by_cases hi : i < ws.length
  · refine w_inDec (by omega) ?_
    have g1 : ws[i]? = some ws[i] := List.getElem?_eq_getElem hi
    have g2 : T[i]? = some (T[i]'(by have := h3.1; omega)) := List.getElem?_eq_getElem _
    obtain ⟨a, l, c, e1, ht⟩ := h3.2 i _ _ g1 g2
    rw [e1] at g1
    rw [g2] at q
    walk_at "go"
    refine w_fld ?_
    walk_at "go"
    refine w_fldR C.cl C.found h1 (rf_found _ _ _) ?_
    refine w_fld ?_
    walk_at "go"
    refine w_fldR C.cl C.at_ h1 (rf_at _ _ _) ?_
    refine w_ixT h2 (atI_nat g1) ?_
    walk_at "go"
    exact q.at_
  · refine w_outDec (by omega) ?_
    walk_at "go"
    rw [List.getElem?_eq_none (by have := h3.1; omega)] at q
    exact q.at_
theorem pu_Reader_value {K : PySem.W.Frag} (C : RdCls K) (vs : List V) (H : Hp) (Q : VK) (E : XK) (h : sp_value K vs H Q E) :
    t_Reader_value K { nx := fun _ H' => Q .non H', rt := Q } (start n_Reader_value vs) H := by
  obtain ⟨r, T, i, rfl, ⟨dx, F, e, ws, j, rfl, h1, h2, h3⟩, q⟩ := h
  delta t_Reader_value
  walk_at "go"
  refine w_fld ?_
  walk_at "go"
  refine w_fldR C.cl C.at_ h1 (rf_at _ _ _) ?_
  walk_at "go"
  refine w_fld ?_
  walk_at "go"
  refine w_fldR C.cl C.found h1 (rf_found _ _ _) ?_
  walk_at "go"
  unfold valAt at q
  by_cases hi : i < ws.length
  · refine w_inDec (by omega) ?_
    have g1 : ws[i]? = some ws[i] := List.getElem?_eq_getElem hi
    have g2 : T[i]? = some (T[i]'(by have := h3.1; omega)) := List.getElem?_eq_getElem _
    obtain ⟨a, l, c, e1, ht⟩ := h3.2 i _ _ g1 g2
    rw [e1] at g1
    rw [g2] at q
    walk_at "go"
    refine w_fld ?_
    walk_at "go"
    refine w_fldR C.cl C.found h1 (rf_found _ _ _) ?_
    refine w_fld ?_
    walk_at "go"
    refine w_fldR C.cl C.at_ h1 (rf_at _ _ _) ?_
    refine w_ixT h2 (atI_nat g1) ?_
    walk_at "go"
    exact q.at_
  · refine w_outDec (by omega) ?_
    walk_at "go"
    rw [List.getElem?_eq_none (by have := h3.1; omega)] at q
    exact q.at_
theorem pu_Reader_step {K : PySem.W.Frag} (C : RdCls K) (vs : List V) (H : Hp) (Q : VK) (E : XK) (h : sp_step K vs H Q E) :
    t_Reader_step K { nx := fun _ H' => Q .non H', rt := Q } (start n_Reader_step vs) H := by
  obtain ⟨r, T, i, rfl, ⟨dx, F, e, ws, j, rfl, h1, h2, h3⟩, q⟩ := h
  delta t_Reader_step
  refine s_fldl ?_
  walk_at "go"
  refine w_fld ?_
  walk_at "go"
  refine w_fldR C.cl C.at_ h1 (rf_at _ _ _) ?_
  walk_at "go"
  refine ⟨r, RC K, dx, _, rfl, h1, C.cl, C.at_, by show 3 < 1000; decide, ?_⟩
  rw [rf_put]
  exact q _ fx_upd ⟨dx, F, e, ws, _, by omega, upd_same, Fx.sqt fx_upd (noTup_ins h1) h2, toks_keep (fun _ _ z => Fx.sqt fx_upd (noTup_ins h1) z) h3⟩
theorem pu_Reader_is_sign {K : PySem.W.Frag} (vs : List V) (H : Hp) (Q : VK) (E : XK) (h : sp_is_sign K vs H Q E) :
    t_Reader_is_sign K (sp_kind K) (sp_value K) { nx := fun _ H' => Q .non H', rt := Q } (start n_Reader_is_sign vs) H := by
  obtain ⟨r, T, i, x, rfl, hr, q⟩ := h
  delta t_Reader_is_sign
  walk_at "go"
  refine ⟨r, T, i, rfl, hr, fun H1 e1 => ?_⟩
  unfold isS at q
  unfold kindAt
  cases hT : T[i]? with
  | none =>
    rw [hT] at q
    walk_at "go"
    exact q _ e1
  | some k =>
    rw [hT] at q
    cases k with
    | w y => dsimp only [kindV]; walk_at "go"; exact q _ e1
    | n y => dsimp only [kindV]; walk_at "go"; exact q _ e1
    | s y =>
      dsimp only [kindV]
      walk_at "go"
      refine ⟨r, T, i, rfl, by walk_at "rd", fun H2 e2 => ?_⟩
      unfold valAt
      rw [hT]
      dsimp only [valV]
      walk_at "go"
      exact q _ (e1.trans e2)
theorem pu_Reader_is_word {K : PySem.W.Frag} (vs : List V) (H : Hp) (Q : VK) (E : XK) (h : sp_is_word K vs H Q E) :
    t_Reader_is_word K (sp_kind K) (sp_value K) { nx := fun _ H' => Q .non H', rt := Q } (start n_Reader_is_word vs) H := by
  obtain ⟨r, T, i, x, rfl, hr, q⟩ := h
  delta t_Reader_is_word
  walk_at "go"
  refine ⟨r, T, i, rfl, hr, fun H1 e1 => ?_⟩
  unfold isW at q
  unfold kindAt
  cases hT : T[i]? with
  | none =>
    rw [hT] at q
    walk_at "go"
    exact q _ e1
  | some k =>
    rw [hT] at q
    cases k with
    | s y => dsimp only [kindV]; walk_at "go"; exact q _ e1
    | n y => dsimp only [kindV]; walk_at "go"; exact q _ e1
    | w y =>
      dsimp only [kindV]
      walk_at "go"
      refine ⟨r, T, i, rfl, by walk_at "rd", fun H2 e2 => ?_⟩
      unfold valAt
      rw [hT]
      dsimp only [valV]
      walk_at "go"
      exact q _ (e1.trans e2)
theorem isS_yes {T : List Tk} {i : Nat} {x : Tx} (h : T[i]? = some (.s x)) : isS T i x = true := by
  unfold isS
  rw [h]
  exact decide_eq_true rfl
theorem isW_yes {T : List Tk} {i : Nat} {x : Tx} (h : T[i]? = some (.w x)) : isW T i x = true := by
  unfold isW
  rw [h]
  exact decide_eq_true rfl
theorem pu_Reader_need_sign {K : PySem.W.Frag} (vs : List V) (H : Hp) (Q : VK) (E : XK) (h : sp_need_sign K vs H Q E) :
    t_Reader_need_sign K (sp_is_sign K) sp_never (sp_step K) { nx := fun _ H' => Q .non H', rt := Q } (start n_Reader_need_sign vs) H := by
  obtain ⟨r, T, i, x, rfl, hr, hT, q⟩ := h
  delta t_Reader_need_sign
  walk_at "go"
  refine ⟨r, T, i, x, rfl, hr, fun H1 e1 => ?_⟩
  rw [isS_yes hT]
  walk_at "go"
  refine ⟨r, T, i, rfl, by walk_at "rd", fun H2 f2 hr2 => ?_⟩
  exact q _ ((same_fx e1).trans f2) hr2
theorem pu_Reader_need_word {K : PySem.W.Frag} (vs : List V) (H : Hp) (Q : VK) (E : XK) (h : sp_need_word K vs H Q E) :
    t_Reader_need_word K (sp_is_word K) sp_never (sp_step K) { nx := fun _ H' => Q .non H', rt := Q } (start n_Reader_need_word vs) H := by
  obtain ⟨r, T, i, x, rfl, hr, hT, q⟩ := h
  delta t_Reader_need_word
  walk_at "go"
  refine ⟨r, T, i, x, rfl, hr, fun H1 e1 => ?_⟩
  rw [isW_yes hT]
  walk_at "go"
  refine ⟨r, T, i, rfl, by walk_at "rd", fun H2 f2 hr2 => ?_⟩
  exact q _ ((same_fx e1).trans f2) hr2
theorem inV_sgV (x : Tx) (l : List Tx) : inV (.str (mk x)) (sgV l) = l.contains x := by
  unfold inV sgV
  induction l with
  | nil => rfl
  | cons y r ih =>
    rw [List.map_cons, List.any_cons, ih, List.contains_cons]
    congr 1
    show (mk y == mk x) = (x == y)
    by_cases h : x = y
    · subst h
      simp
    · rw [beq_eq_false_iff_ne.mpr h, beq_eq_false_iff_ne.mpr (fun z => h (mk_inj z).symm)]
theorem flat_sgV (l : List Tx) : (sgV l).all flatV = true := by
  unfold sgV
  rw [List.all_map, List.all_eq_true]
  intro _ _
  rfl
theorem pu_Reader_need_name {K : PySem.W.Frag} (hS : ∀ H, SqT K H (He.ga K "RESERVED") (sgV resv)) (vs : List V) (H : Hp) (Q : VK) (E : XK) (h : sp_need_name K vs H Q E) :
    t_Reader_need_name K (sp_kind K) (sp_value K) sp_never (sp_step K) { nx := fun _ H' => Q .non H', rt := Q } (start n_Reader_need_name vs) H := by
  obtain ⟨r, T, i, x, rfl, hr, hT, hx, q⟩ := h
  have hx2 : resv.contains x = false := by
    unfold nameOk at hx
    simp only [Bool.and_eq_true, Bool.not_eq_true'] at hx
    exact hx.2
  delta t_Reader_need_name
  walk_at "go"
  refine ⟨r, T, i, rfl, hr, fun H1 e1 => ?_⟩
  unfold kindAt
  rw [hT]
  dsimp only [kindV]
  walk_at "go"
  refine ⟨r, T, i, rfl, by walk_at "rd", fun H2 e2 => ?_⟩
  unfold valAt
  rw [hT]
  dsimp only [valV]
  walk_at "go"
  refine w_in (Or.inr (hS H2)) rfl (flat_sgV _) ?_
  rw [inV_sgV, hx2]
  walk_at "go"
  refine ⟨r, T, i, rfl, by walk_at "rd", fun H3 e3 => ?_⟩
  unfold valAt
  rw [hT]
  dsimp only [valV]
  walk_at "go"
  refine ⟨r, T, i, rfl, by walk_at "rd", fun H4 f4 hr4 => ?_⟩
  walk_at "go"
  exact q _ (by walk_at "fx") hr4
end Cc
namespace Cc
/-! ### places -/
theorem at_cons {T r : List Tk} {i : Nat} {k : Tk} (h : T.drop i = k :: r) : T[i]? = some k := by
  have h1 : (T.drop i)[0]? = T[i + 0]? := List.getElem?_drop
  rw [h] at h1
  simpa using h1.symm
theorem nx_cons {T r : List Tk} {i : Nat} {k : Tk} (h : T.drop i = k :: r) : T.drop (i + 1) = r := by
  rw [← List.drop_drop, h] <;> rfl
theorem at_app {T a b : List Tk} {i : Nat} (h : T.drop i = a ++ b) : T.drop (i + a.length) = b := by
  rw [← List.drop_drop, h, List.drop_left]
theorem rd_i {K : PySem.W.Frag} {H : Hp} {r : Addr} {T : List Tk} {i j : Nat} (h : RdAt K H r T i) (e : i = j) : RdAt K H r T j := e ▸ h
def tkS : Tk → Tx → Bool
  | .s y, x => decide (y = x)
  | _, _ => false
def tkW : Tk → Tx → Bool
  | .w y, x => decide (y = x)
  | _, _ => false
theorem isS_at {T : List Tk} {i : Nat} {k : Tk} {x : Tx} (h : T[i]? = some k) : isS T i x = tkS k x := by
  unfold isS
  rw [h]
  cases k <;> rfl
theorem isW_at {T : List Tk} {i : Nat} {k : Tk} {x : Tx} (h : T[i]? = some k) : isW T i x = tkW k x := by
  unfold isW
  rw [h]
  cases k <;> rfl
theorem kind_at {T : List Tk} {i : Nat} {k : Tk} (h : T[i]? = some k) : kindAt T i = kindV k := by
  unfold kindAt
  rw [h]
theorem val_at {T : List Tk} {i : Nat} {k : Tk} (h : T[i]? = some k) : valAt T i = valV k := by
  unfold valAt
  rw [h]
/-! ### numbers, expressions -/
def sp_read_number (K : PySem.W.Frag) : Sp := fun vs H Q _ => ∃ r T i k, vs = [.ref r] ∧ RdAt K H r T i ∧ T[i]? = some (.n k) ∧ RetR K r T (i + 1) (.int (k : Int)) H Q
theorem pu_read_number {K : PySem.W.Frag} (vs : List V) (H : Hp) (Q : VK) (E : XK) (h : sp_read_number K vs H Q E) :
    t_read_number K (sp_kind K) sp_never (sp_value K) (sp_step K) { nx := fun _ H' => Q .non H', rt := Q } (start n_read_number vs) H := by
  obtain ⟨r, T, i, k, rfl, hr, hT, q⟩ := h
  delta t_read_number
  walk_at "go"
  refine ⟨r, T, i, rfl, hr, fun H1 e1 => ?_⟩
  rw [kind_at hT]
  dsimp only [kindV]
  walk_at "go"
  refine ⟨r, T, i, rfl, by walk_at "rd", fun H2 e2 => ?_⟩
  rw [val_at hT]
  dsimp only [valV]
  walk_at "go"
  refine ⟨r, T, i, rfl, by walk_at "rd", fun H3 f3 hr3 => ?_⟩
  walk_at "go"
  exact q _ (by walk_at "fx") hr3
def sp_read_expression (K : PySem.W.Frag) (n : Nat) : Sp := fun vs H Q _ => ∃ (r : Addr) (T : List Tk) (i : Nat) (e : Ex) (m : Nat) (rest : List Tk), vs = [.ref r] ∧ n = m + 1 ∧ m ≤ 3 ∧ RdAt K H r T i ∧ T.drop i = e.tk ++ rest ∧ e.ok m ∧ RetD K r T (i + e.tk.length) e.da H Q
theorem sg_ops (g : Sg) : g ≠ .mod → inV (.str (mk g.tx)) (sgV [sPl, sMi, sMu, sDi]) = true := by
  intro h
  rw [inV_sgV]
  cases g <;> first | rfl | exact absurd rfl h
theorem pu_read_expression {K : PySem.W.Frag} {n : Nat} (hO : ∀ H, SqT K H (He.ga K "OPERATIONS") (sgV [sPl, sMi, sMu, sDi])) (vs : List V) (H : Hp) (Q : VK) (E : XK) (h : sp_read_expression K (n + 1) vs H Q E) :
    t_read_expression K (sp_read_expression K n) (sp_read_number K) (sp_is_sign K) (sp_step K) (sp_kind K) (sp_value K) (sp_need_word K) (sp_need_sign K) (sp_need_name K) { nx := fun _ H' => Q .non H', rt := Q } (start n_read_expression vs) H := by
  obtain ⟨r, T, i, e, m, rest, rfl, hm, h3, hr, hT, hk, q⟩ := h
  delta t_read_expression
  cases hm
  cases e with
  | num j =>
    have hj := ex_num hk
    by_cases hn : j < 0
    · have e1 : (Ex.num j).tk = [.s sMi, .n j.natAbs] := by
        show numTk j = _
        unfold numTk
        rw [if_pos hn]
      rw [e1] at hT q
      have t0 := at_cons hT
      have d1 := nx_cons hT
      have t1 := at_cons d1
      walk_at "go"
      refine ⟨r, T, i, sLp, rfl, hr, fun H1 e1 => ?_⟩
      rw [isS_at t0]
      walk_at "go"
      refine ⟨r, T, i, sMi, rfl, by walk_at "rd", fun H2 e2 => ?_⟩
      rw [isS_at t0]
      walk_at "go"
      refine ⟨r, T, i, rfl, by walk_at "rd", fun H3 f3 hr3 => ?_⟩
      walk_at "go"
      refine ⟨r, T, i + 1, _, rfl, hr3, t1, fun H4 f4 hr4 => ?_⟩
      walk_at "go"
      rename_i p H5 hp e5 hl5
      have ej : -((j.natAbs : Nat) : Int) = j := by omega
      rw [ej] at hl5
      exact q _ H5 (by walk_at "fx") (by walk_at "rd") (.tup (SqT.of hl5) (.cons (.str _) (.cons (.int _) .nil)))
    · have e1 : (Ex.num j).tk = [.n j.natAbs] := by
        show numTk j = _
        unfold numTk
        rw [if_neg hn]
      rw [e1] at hT q
      have t0 := at_cons hT
      walk_at "go"
      refine ⟨r, T, i, sLp, rfl, hr, fun H1 e1 => ?_⟩
      rw [isS_at t0]
      walk_at "go"
      refine ⟨r, T, i, sMi, rfl, by walk_at "rd", fun H2 e2 => ?_⟩
      rw [isS_at t0]
      walk_at "go"
      refine ⟨r, T, i, rfl, by walk_at "rd", fun H3 e3 => ?_⟩
      rw [kind_at t0]
      dsimp only [kindV]
      walk_at "go"
      refine ⟨r, T, i, _, rfl, by walk_at "rd", t0, fun H4 f4 hr4 => ?_⟩
      walk_at "go"
      rename_i p H5 hp e5 hl5
      have ej : ((j.natAbs : Nat) : Int) = j := by omega
      rw [ej] at hl5
      exact q _ H5 (by walk_at "fx") (by walk_at "rd") (.tup (SqT.of hl5) (.cons (.str _) (.cons (.int _) .nil)))
  | name x =>
    have hx := ex_nam hk
    have t0 := at_cons (show T.drop i = .w x :: rest from hT)
    walk_at "go"
    refine ⟨r, T, i, sLp, rfl, hr, fun H1 e1 => ?_⟩
    rw [isS_at t0]
    walk_at "go"
    refine ⟨r, T, i, sMi, rfl, by walk_at "rd", fun H2 e2 => ?_⟩
    rw [isS_at t0]
    walk_at "go"
    refine ⟨r, T, i, rfl, by walk_at "rd", fun H3 e3 => ?_⟩
    rw [kind_at t0]
    dsimp only [kindV]
    walk_at "go"
    refine ⟨r, T, i, x, rfl, by walk_at "rd", t0, hx, fun H4 f4 hr4 => ?_⟩
    walk_at "go"
    rename_i p H5 hp e5 hl5
    exact q _ H5 (by walk_at "fx") (by walk_at "rd") (.tup (SqT.of hl5) (.cons (.str _) (.cons (.str _) .nil)))
  | op g l r' =>
    obtain ⟨j, rfl, hl, hr'⟩ := ex_op hk
    have hT' : T.drop i = .s sLp :: (l.tk ++ g.tk :: (r'.tk ++ .s sRp :: rest)) := by
      rw [hT]
      show (Tk.s sLp :: (l.tk ++ g.tk :: (r'.tk ++ [.s sRp]))) ++ rest = _
      simp
    have t0 := at_cons hT'
    have d1 := nx_cons hT'
    have d2 := at_app d1
    have t2 := at_cons d2
    have d3 := nx_cons d2
    have d4 := at_app d3
    have t4 := at_cons d4
    have en : i + 1 + l.tk.length + 1 + r'.tk.length + 1 = i + (Ex.op g l r').tk.length := by
      show _ = i + (Tk.s sLp :: (l.tk ++ g.tk :: (r'.tk ++ [.s sRp]))).length
      simp only [List.length_append, List.length_cons, List.length_nil]
      omega
    walk_at "go"
    refine ⟨r, T, i, sLp, rfl, hr, fun H1 e1 => ?_⟩
    rw [isS_at t0]
    walk_at "go"
    refine ⟨r, T, i, rfl, by walk_at "rd", fun H2 f2 hr2 => ?_⟩
    walk_at "go"
    refine ⟨r, T, i + 1, l, j, _, rfl, rfl, by omega, hr2, d1, hl, fun vl H3 f3 hr3 hdl => ?_⟩
    walk_at "go"
    refine ⟨r, T, _, rfl, hr3, fun H4 e4 => ?_⟩
    rw [kind_at t2]
    have fin : ∀ (D : Ends) (gv : Tx) (H6 : Hp), D.rt = Q → gv = g.tx → Fx r H H6 → RdAt K H6 r T (i + 1 + l.tk.length + 1) → Dp K H6 vl l.da →
        (tSeq (tAsg (tCall (sp_read_expression K (j + 1)) [] E0 (tCons (tVar 0) tNil)) (gName 3)) (tSeq (tDrop (tMeth (He.ga K "Reader") "need_sign" (sp_need_sign K) [] E0 (tVar 0) (tCons (tC (.str (mk [41]))) tNil))) (tRet (tTup (tCons (tC (.str (mk [111, 112]))) (tCons (tVar 2) (tCons (tVar 1) (tCons (tVar 3) tNil)))))))) D
          [some (.ref r), some vl, some (.str (mk gv)), none] H6 := fun D gv H6 eD eg f6 hr6 hd6 => by
      subst eg
      walk_at "go"
      refine ⟨r, T, _, r', j, _, rfl, rfl, by omega, hr6, d3, hr', fun vr H7 f7 hr7 hdr => ?_⟩
      walk_at "go"
      refine ⟨r, T, _, sRp, rfl, hr7, t4, fun H8 f8 hr8 => ?_⟩
      walk_at "go"
      rename_i p H9 hp e9 hl9
      have a1 : Dp K H9 vl l.da := by walk_at "dpf"
      have a2 : Dp K H9 vr r'.da := by walk_at "dpf"
      rw [eD]
      exact q _ H9 (by walk_at "fx") (rd_i (by walk_at "rd") en) (.tup (SqT.of hl9) (.cons (.str _) (.cons (.str _) (.cons a1 (.cons a2 .nil)))))
    by_cases hg : g = .mod
    · subst hg
      dsimp only [Sg.tk, kindV]
      walk_at "go"
      refine ⟨r, T, _, kMod, rfl, by walk_at "rd", t2, fun H5 f5 hr5 => ?_⟩
      refine s_setl (w_c ?_)
      exact fin _ _ H5 rfl rfl (by walk_at "fx") hr5 (by walk_at "dpf")
    · have eg : g.tk = .s g.tx := by cases g <;> first | rfl | exact absurd rfl hg
      rw [eg] at t2 ⊢
      dsimp only [kindV]
      walk_at "go"
      refine ⟨r, T, _, rfl, by walk_at "rd", fun H5 e5 => ?_⟩
      rw [val_at t2]
      dsimp only [valV]
      walk_at "go"
      refine w_in (Or.inr (hO H5)) rfl (flat_sgV _) ?_
      rw [sg_ops g hg]
      walk_at "go"
      refine ⟨r, T, _, rfl, by walk_at "rd", fun H6 e6 => ?_⟩
      rw [val_at t2]
      dsimp only [valV]
      walk_at "go"
      refine ⟨r, T, _, rfl, by walk_at "rd", fun H7 f7 hr7 => ?_⟩
      exact fin _ _ H7 rfl rfl (by walk_at "fx") hr7 (by walk_at "dpf")
end Cc
namespace Cc
def sp_read_condition (K : PySem.W.Frag) (n : Nat) : Sp := fun vs H Q _ => ∃ (r : Addr) (T : List Tk) (i : Nat) (c : Co) (m : Nat) (rest : List Tk), vs = [.ref r] ∧ n = m + 1 ∧ m ≤ 2 ∧ RdAt K H r T i ∧ T.drop i = c.tk ++ rest ∧ c.ok m ∧ RetD K r T (i + c.tk.length) c.da H Q
/-- the first token of an expression is no `not` and no `[` -/
theorem ex_first (e : Ex) {m : Nat} (h : e.ok m) : ∃ k ts, e.tk = k :: ts ∧ tkW k kNot = false ∧ tkS k sLs = false := by
  cases e with
  | num j =>
    show ∃ k ts, numTk j = _ ∧ _
    unfold numTk
    split
    · exact ⟨_, _, rfl, rfl, rfl⟩
    · exact ⟨_, _, rfl, rfl, rfl⟩
  | name x =>
    have hx := ex_nam h
    refine ⟨_, _, rfl, ?_, rfl⟩
    refine decide_eq_false fun z => ?_
    subst z
    revert hx
    decide
  | op g l r => exact ⟨_, _, rfl, rfl, rfl⟩
theorem pu_read_condition {K : PySem.W.Frag} {n : Nat} (hO : ∀ H, SqT K H (He.ga K "RELATIONS") (sgV [sLt, sLe, sEE, sNe])) (vs : List V) (H : Hp) (Q : VK) (E : XK) (h : sp_read_condition K (n + 1) vs H Q E) :
    t_read_condition K (sp_read_condition K n) (sp_read_expression K 4) (sp_is_word K) (sp_step K) (sp_is_sign K) sp_never (sp_value K) (sp_need_sign K) (sp_kind K) { nx := fun _ H' => Q .non H', rt := Q } (start n_read_condition vs) H := by
  obtain ⟨r, T, i, c, m, rest, rfl, hm, h3, hr, hT, hk, q⟩ := h
  delta t_read_condition
  cases hm
  cases c with
  | not c =>
    obtain ⟨j, rfl, hc⟩ := co_not hk
    have hT' : T.drop i = .w kNot :: (c.tk ++ rest) := hT
    have t0 := at_cons hT'
    have d1 := nx_cons hT'
    walk_at "go"
    refine ⟨r, T, i, kNot, rfl, hr, fun H1 e1 => ?_⟩
    rw [isW_at t0]
    walk_at "go"
    refine ⟨r, T, i, rfl, by walk_at "rd", fun H2 f2 hr2 => ?_⟩
    walk_at "go"
    refine ⟨r, T, i + 1, c, j, rest, rfl, rfl, by omega, hr2, d1, hc, fun v H3 f3 hr3 hd3 => ?_⟩
    walk_at "go"
    rename_i p H5 hp e5 hl5
    have a1 : Dp K H5 v c.da := by walk_at "dpf"
    have en : i + 1 + c.tk.length = i + (Co.not c).tk.length := by
      show _ = i + (Tk.w kNot :: c.tk).length
      rw [List.length_cons]
      omega
    exact q _ H5 (by walk_at "fx") (rd_i (by walk_at "rd") en) (.tup (SqT.of hl5) (.cons (.str _) (.cons a1 .nil)))
  | cmp g l r' =>
    obtain ⟨hl, hr'⟩ := co_cmp hk
    have hT' : T.drop i = l.tk ++ .s g.tx :: (r'.tk ++ rest) := by
      rw [hT]
      show (l.tk ++ Tk.s g.tx :: r'.tk) ++ rest = _
      simp
    obtain ⟨k0, ts0, ek, kw, ks⟩ := ex_first l hl
    have t0 : T[i]? = some k0 := at_cons (r := ts0 ++ .s g.tx :: (r'.tk ++ rest)) (by rw [hT', ek]; rfl)
    have d2 := at_app hT'
    have t2 := at_cons d2
    have d3 := nx_cons d2
    have en : i + l.tk.length + 1 + r'.tk.length = i + (Co.cmp g l r').tk.length := by
      show _ = i + (l.tk ++ Tk.s g.tx :: r'.tk).length
      simp only [List.length_append, List.length_cons]
      omega
    have eg : inV (.str (mk g.tx)) (sgV [sLt, sLe, sEE, sNe]) = true := by
      rw [inV_sgV]
      cases g <;> rfl
    walk_at "go"
    refine ⟨r, T, i, kNot, rfl, hr, fun H1 e1 => ?_⟩
    rw [isW_at t0, kw]
    walk_at "go"
    refine ⟨r, T, i, sLs, rfl, by walk_at "rd", fun H2 e2 => ?_⟩
    rw [isS_at t0, ks]
    walk_at "go"
    refine ⟨r, T, i, l, 3, _, rfl, rfl, by omega, by walk_at "rd", hT', ex_up (by decide) hl, fun vl H3 f3 hr3 hd3 => ?_⟩
    walk_at "go"
    refine ⟨r, T, _, rfl, hr3, fun H4 e4 => ?_⟩
    rw [kind_at t2]
    dsimp only [kindV]
    walk_at "go"
    refine ⟨r, T, _, rfl, by walk_at "rd", fun H5 e5 => ?_⟩
    rw [val_at t2]
    dsimp only [valV]
    walk_at "go"
    refine w_in (Or.inr (hO H5)) rfl (flat_sgV _) ?_
    rw [eg]
    walk_at "go"
    refine ⟨r, T, _, rfl, by walk_at "rd", fun H6 e6 => ?_⟩
    rw [val_at t2]
    dsimp only [valV]
    walk_at "go"
    refine ⟨r, T, _, rfl, by walk_at "rd", fun H7 f7 hr7 => ?_⟩
    walk_at "go"
    refine ⟨r, T, _, r', 3, rest, rfl, rfl, by omega, hr7, d3, ex_up (by decide) hr', fun vr H8 f8 hr8 hd8 => ?_⟩
    walk_at "go"
    rename_i p H9 hp e9 hl9
    have a1 : Dp K H9 vl l.da := by walk_at "dpf"
    have a2 : Dp K H9 vr r'.da := by walk_at "dpf"
    exact q _ H9 (by walk_at "fx") (rd_i (by walk_at "rd") en) (.tup (SqT.of hl9) (.cons (.str _) (.cons (.str _) (.cons a1 (.cons a2 .nil)))))
  | bin k a b =>
    obtain ⟨j, rfl, ha, hb⟩ := co_bin hk
    have hT' : T.drop i = .s sLs :: (a.tk ++ .w (andOr k) :: (b.tk ++ .s sRs :: rest)) := by
      rw [hT]
      show (Tk.s sLs :: (a.tk ++ .w (andOr k) :: (b.tk ++ [.s sRs]))) ++ rest = _
      simp
    have t0 := at_cons hT'
    have d1 := nx_cons hT'
    have d2 := at_app d1
    have t2 := at_cons d2
    have d3 := nx_cons d2
    have d4 := at_app d3
    have t4 := at_cons d4
    have en : i + 1 + a.tk.length + 1 + b.tk.length + 1 = i + (Co.bin k a b).tk.length := by
      show _ = i + (Tk.s sLs :: (a.tk ++ .w (andOr k) :: (b.tk ++ [.s sRs]))).length
      simp only [List.length_append, List.length_cons, List.length_nil]
      omega
    walk_at "go"
    refine ⟨r, T, i, kNot, rfl, hr, fun H1 e1 => ?_⟩
    rw [isW_at t0]
    walk_at "go"
    refine ⟨r, T, i, sLs, rfl, by walk_at "rd", fun H2 e2 => ?_⟩
    rw [isS_at t0]
    walk_at "go"
    refine ⟨r, T, i, rfl, by walk_at "rd", fun H3 f3 hr3 => ?_⟩
    walk_at "go"
    refine ⟨r, T, i + 1, a, j, _, rfl, rfl, by omega, hr3, d1, ha, fun va H4 f4 hr4 hd4 => ?_⟩
    walk_at "go"
    refine ⟨r, T, _, kAnd, rfl, hr4, fun H5 e5 => ?_⟩
    have fin : ∀ (D : Ends) (H6 : Hp), D.rt = Q → Fx r H H6 → RdAt K H6 r T (i + 1 + a.tk.length) → Dp K H6 va a.da →
        (tSeq (tAsg (tMeth (He.ga K "Reader") "value" (sp_value K) [] E0 (tVar 0) tNil) (gName 2)) (tSeq (tDrop (tMeth (He.ga K "Reader") "step" (sp_step K) [] E0 (tVar 0) tNil)) (tSeq (tAsg (tCall (sp_read_condition K (j + 1)) [] E0 (tCons (tVar 0) tNil)) (gName 3))
          (tSeq (tDrop (tMeth (He.ga K "Reader") "need_sign" (sp_need_sign K) [] E0 (tVar 0) (tCons (tC (.str (mk [93]))) tNil))) (tRet (tTup (tCons (tVar 2) (tCons (tVar 1) (tCons (tVar 3) tNil))))))))) D
          [some (.ref r), some va, none, none, none] H6 := fun D H6 eD f6 hr6 hd6 => by
      walk_at "go"
      refine ⟨r, T, _, rfl, hr6, fun H7 e7 => ?_⟩
      rw [val_at t2]
      dsimp only [valV]
      walk_at "go"
      refine ⟨r, T, _, rfl, by walk_at "rd", fun H8 f8 hr8 => ?_⟩
      walk_at "go"
      refine ⟨r, T, _, b, j, _, rfl, rfl, by omega, hr8, d3, hb, fun vb H9 f9 hr9 hd9 => ?_⟩
      walk_at "go"
      refine ⟨r, T, _, sRs, rfl, hr9, t4, fun H10 f10 hr10 => ?_⟩
      walk_at "go"
      rename_i p H11 hp e11 hl11
      have a1 : Dp K H11 va a.da := by walk_at "dpf"
      have a2 : Dp K H11 vb b.da := by walk_at "dpf"
      rw [eD]
      exact q _ H11 (by walk_at "fx") (rd_i (by walk_at "rd") en) (.tup (SqT.of hl11) (.cons (.str _) (.cons a1 (.cons a2 .nil))))
    rw [isW_at t2]
    cases k with
    | true =>
      refine w_bl2 ?_
      refine w_f rfl ?_
      exact fin _ H5 rfl (by walk_at "fx") (by walk_at "rd") (by walk_at "dpf")
    | false =>
      refine w_bl2 ?_
      refine w_t rfl ?_
      walk_at "go"
      refine ⟨r, T, _, kOr, rfl, by walk_at "rd", fun H6 e6 => ?_⟩
      rw [isW_at t2]
      refine w_bl2 ?_
      refine w_f rfl ?_
      exact fin _ H6 rfl (by walk_at "fx") (by walk_at "rd") (by walk_at "dpf")
end Cc
namespace Cc
/-! ### lists between parentheses -/
def ctl : List (List Tk) → List Tk
  | [] => []
  | x :: r => .s sCm :: (x ++ ctl r)
theorem commas_ctl (x : List Tk) : ∀ r : List (List Tk), commas (x :: r) = x ++ ctl r
  | [] => by simp [commas, ctl]
  | y :: r => by
    have h := commas_ctl y r
    show x ++ .s sCm :: commas (y :: r) = x ++ .s sCm :: (y ++ ctl r)
    rw [h]
theorem drop_inj {T r : List Tk} {k : Tk} {a b : Nat} (h1 : T.drop a = k :: r) (h2 : T.drop b = k :: r) : a = b := by
  have l1 := congrArg List.length h1
  have l2 := congrArg List.length h2
  simp only [List.length_drop, List.length_cons] at l1 l2
  omega
theorem rd_ne {K : PySem.W.Frag} {H : Hp} {r p : Addr} {T : List Tk} {i : Nat} {xs : List V} (h : RdAt K H r T i) (h2 : H p = some (.lst xs)) : r ≠ p := by
  obtain ⟨dx, F, x, ws, j, h1, h3, _⟩ := h
  exact ne_of h3 h2 (by intro z; cases z)
section
variable {σ : L2.St} {H : Hp} {Q : VK} {D : Ends} {t : TS} {y : V} {c : TT}
theorem w_appR {H0 : Hp} {r p : Addr} {xs : List V} (e : Fx r H0 H) (f : H0 p = none) (h : H p = some (.lst xs)) (n : xs.length < 16777216)
    (q : ∀ H', Fx r H0 H' → Fx p H H' → H' p = some (.lst (xs ++ [y])) → Q .non H') : rAppend (.ref p) [y] H Q := w_append h n (q _ (fx_mut e f) fx_upd upd_same)
theorem l_whilel (W : Nat → L2.St → Hp → Prop) (m0 : Nat) (h0 : W m0 σ H) (hs : ∀ m σ' H', W m σ' H' → c σ' H' fun b H1 => if b = true then Turn W m t D σ' H1 else D.nx σ' H1) : tWhile c t D σ H :=
  ⟨W, ⟨m0, h0⟩, hs⟩
end
def sp_read_names (K : PySem.W.Frag) : Sp := fun vs H Q _ => ∃ (r : Addr) (T : List Tk) (i : Nat) (ps : List Tx) (rest : List Tk), vs = [.ref r] ∧ RdAt K H r T i ∧ T.drop i = .s sLp :: (psTk ps ++ .s sRp :: rest) ∧ (∀ x ∈ ps, nameOk x = true) ∧ ps.length ≤ 100 ∧
  RetD K r T (i + 1 + (psTk ps).length + 1) (.tuple (ps.map S)) H Q
theorem dpall_names {K : PySem.W.Frag} {H : Hp} : ∀ l : List Tx, DpAll K H (sgV l) (l.map S)
  | [] => .nil
  | x :: r => .cons (.str _) (dpall_names r)
theorem pu_read_names {K : PySem.W.Frag} (vs : List V) (H : Hp) (Q : VK) (E : XK) (h : sp_read_names K vs H Q E) :
    t_read_names K (sp_need_sign K) (sp_is_sign K) (sp_need_name K) (sp_step K) { nx := fun _ H' => Q .non H', rt := Q } (start n_read_names vs) H := by
  obtain ⟨r, T, i, ps, rest, rfl, hr, hT, hk, hn, q⟩ := h
  have t0 := at_cons hT
  have d1 := nx_cons hT
  have d2 := at_app d1
  delta t_read_names
  walk_at "go"
  refine ⟨r, T, i, sLp, rfl, hr, t0, fun H1 f1 hr1 => ?_⟩
  walk_at "go"
  rename_i p H2 hp1 e2 hl2
  have hr2 : RdAt K H2 r T (i + 1) := by walk_at "rd"
  have f2 : Fx r H H2 := by walk_at "fx"
  have hpr : r ≠ p := rd_ne hr2 hl2
  have hp : H p = none := fx_free f1 hpr.symm hp1
  have fin : ∀ (D : Ends) (H3 : Hp) (pos : Nat) (xs : List Tx), D.rt = Q → xs = ps → Fx r H H3 → RdAt K H3 r T pos → T.drop pos = .s sRp :: rest → H3 p = some (.lst (sgV xs)) →
      (tSeq (tDrop (tMeth (He.ga K "Reader") "need_sign" (sp_need_sign K) [] E0 (tVar 0) (tCons (tC (.str (mk [41]))) tNil))) (tRet (tCB (cTup K) (tCons (tVar 1) tNil)))) D [some (.ref r), some (.ref p)] H3 := fun D H3 pos xs eD ex f3 hr3 h3 hl3 => by
    subst ex
    walk_at "go"
    refine ⟨r, T, pos, sRp, rfl, hr3, at_cons h3, fun H4 f4 hr4 => ?_⟩
    walk_at "go"
    refine w_tupL (SqL.of (f4 p _ hpr.symm hl3)) fun z H5 hz e5 hl5 => ?_
    rw [eD]
    have en := drop_inj h3 d2
    exact q _ H5 (by walk_at "fx") (rd_i (by walk_at "rd") (by omega)) (.tup (SqT.of hl5) (dpall_names _))
  cases ps with
  | nil =>
    have t1 := at_cons d1
    refine ⟨r, T, i + 1, sRp, rfl, hr2, fun H3 e3 => ?_⟩
    rw [isS_at t1]
    refine w_bl2 ?_
    refine w_f rfl ?_
    exact fin _ H3 (i + 1) [] rfl rfl (by walk_at "fx") (by walk_at "rd") d1 (e3 _ _ hl2)
  | cons x ps' =>
    have ep : psTk (x :: ps') = .w x :: ctl (ps'.map fun x => [Tk.w x]) := by
      unfold psTk
      rw [List.map_cons, commas_ctl]
      rfl
    rw [ep] at d1
    have t1 := at_cons (show T.drop (i + 1) = .w x :: (ctl (ps'.map fun x => [Tk.w x]) ++ .s sRp :: rest) from d1)
    have d3 := nx_cons (show T.drop (i + 1) = .w x :: (ctl (ps'.map fun x => [Tk.w x]) ++ .s sRp :: rest) from d1)
    refine ⟨r, T, i + 1, sRp, rfl, hr2, fun H3 e3 => ?_⟩
    rw [isS_at t1]
    refine w_bl2 ?_
    refine w_t rfl ?_
    have hl3 := e3 _ _ hl2
    walk_at "go"
    refine ⟨r, T, i + 1, x, rfl, by walk_at "rd", t1, hk x List.mem_cons_self, fun H4 f4 hr4 => ?_⟩
    have hl4 := f4 p _ hpr.symm hl3
    walk_at "go"
    refine w_appR (r := r) (H0 := H) (by walk_at "fx") hp hl4 (by decide) fun H5 f5 g5 hl5 => ?_
    have hr5 := rd_fx g5 (noTup_lst hl4) hpr hr4
    refine l_whilel (fun m σ H' => ∃ k pos, k ≤ ps'.length ∧ m = ps'.length - k ∧ σ = [some (.ref r), some (.ref p)] ∧ Fx r H H' ∧ RdAt K H' r T pos ∧ T.drop pos = ctl ((ps'.drop k).map fun x => [Tk.w x]) ++ .s sRp :: rest ∧ H' p = some (.lst (sgV (x :: ps'.take k)))) ps'.length
      ⟨0, i + 2, Nat.zero_le _, rfl, rfl, f5, hr5, d3, by rw [hl5]; rfl⟩ ?_
    rintro m σ' H' ⟨k, pos, hkk, rfl, rfl, fH, hrH, hdH, hlH⟩
    walk_at "go"
    refine ⟨r, T, pos, sCm, rfl, hrH, fun H6 e6 => ?_⟩
    have hl6 := e6 _ _ hlH
    by_cases hlt : k < ps'.length
    · have ed : ps'.drop k = ps'[k] :: ps'.drop (k + 1) := List.drop_eq_getElem_cons hlt
      rw [ed] at hdH
      have hdH' : T.drop pos = .s sCm :: (.w ps'[k] :: (ctl ((ps'.drop (k + 1)).map fun x => [Tk.w x]) ++ .s sRp :: rest)) := hdH
      have u0 := at_cons hdH'
      have w1 := nx_cons hdH'
      have u1 := at_cons w1
      have w2 := nx_cons w1
      rw [isS_at u0]
      refine w_bl2 ?_
      refine w_t rfl (turn_mk ?_)
      walk_at "go"
      refine ⟨r, T, pos, rfl, by walk_at "rd", fun H7 f7 hr7 => ?_⟩
      have hl7 := f7 p _ hpr.symm hl6
      walk_at "go"
      refine ⟨r, T, pos + 1, ps'[k], rfl, hr7, u1, hk _ (List.mem_cons_of_mem _ (List.getElem_mem hlt)), fun H8 f8 hr8 => ?_⟩
      have hl8 := f8 p _ hpr.symm hl7
      walk_at "go"
      refine w_appR (r := r) (H0 := H) (by walk_at "fx") hp hl8 (by rw [sgV_len, List.length_cons, List.length_take]; simp at hn; omega) fun H9 f9 g9 hl9 => ?_
      refine ⟨ps'.length - (k + 1), by omega, k + 1, pos + 2, by omega, rfl, rfl, f9, rd_fx g9 (noTup_lst hl8) hpr hr8, w2, ?_⟩
      rw [hl9, take_succ_get (List.getElem?_eq_getElem hlt), ← List.cons_append, sgV_app]
      rfl
    · have hkl : k = ps'.length := by omega
      subst hkl
      rw [List.drop_length] at hdH
      have hdH' : T.drop pos = .s sRp :: rest := hdH
      rw [isS_at (at_cons hdH')]
      refine w_bl2 ?_
      refine w_f rfl ?_
      exact fin _ H6 pos _ rfl (by rw [List.take_length]) (by walk_at "fx") (by walk_at "rd") hdH' hl6
/-! ### calls -/
def sp_read_call (K : PySem.W.Frag) : Sp := fun vs H Q _ => ∃ (r : Addr) (T : List Tk) (i : Nat) (f : Tx) (es : List Ex) (t : Option Tx) (m : Nat) (rest : List Tk), vs = [.ref r] ∧ RdAt K H r T i ∧ T.drop i = (Sm.call f es t).tk ++ rest ∧ (Sm.call f es t).ok m ∧
  RetD K r T (i + (Sm.call f es t).tk.length) (Sm.call f es t).da H Q
theorem ex_firstP (e : Ex) {m : Nat} (h : e.ok m) : ∃ k ts, e.tk = k :: ts ∧ tkS k sRp = false := by
  cases e with
  | num j =>
    show ∃ k ts, numTk j = _ ∧ _
    unfold numTk
    split
    · exact ⟨_, _, rfl, rfl⟩
    · exact ⟨_, _, rfl, rfl⟩
  | name x => exact ⟨_, _, rfl, rfl⟩
  | op g l r => exact ⟨_, _, rfl, rfl⟩
theorem exs_plain' (es : List Ex) : plainD (.tuple (es.map Ex.da)) = true := exs_plain es
theorem dpall_snoc {K : PySem.W.Frag} {H : Hp} {v : V} {d : PyData} : ∀ {vs : List V} {ds : List PyData}, DpAll K H vs ds → Dp K H v d → DpAll K H (vs ++ [v]) (ds ++ [d])
  | _, _, .nil, h => .cons h .nil
  | _, _, .cons a r, h => .cons a (dpall_snoc r h)
theorem pu_read_call {K : PySem.W.Frag} (vs : List V) (H : Hp) (Q : VK) (E : XK) (h : sp_read_call K vs H Q E) :
    t_read_call K (sp_read_expression K 4) (sp_step K) (sp_need_name K) (sp_need_sign K) (sp_is_sign K) (sp_is_word K) { nx := fun _ H' => Q .non H', rt := Q } (start n_read_call vs) H := by
  obtain ⟨r, T, i, f, es, t, m, rest, rfl, hr, hT, hk, q⟩ := h
  obtain ⟨hf, hn, he, ht⟩ := sm_call hk
  have hT' : T.drop i = .w kCall :: .w f :: .s sLp :: (commas (es.map Ex.tk) ++ .s sRp :: (toTk t ++ .s sSc :: rest)) := by
    rw [hT]
    simp [Sm.tk]
  have d1 := nx_cons hT'
  have t1 := at_cons d1
  have d2 := nx_cons d1
  have t2 := at_cons d2
  have d3 := nx_cons d2
  have d4 := at_app d3
  have t4 := at_cons d4
  have d5 := nx_cons d4
  have d6 := at_app d5
  have t6 := at_cons d6
  have en : i + 1 + 1 + 1 + (commas (es.map Ex.tk)).length + 1 + (toTk t).length + 1 = i + (Sm.call f es t).tk.length := by
    simp only [Sm.tk, List.length_append, List.length_cons, List.length_nil]
    omega
  delta t_read_call
  walk_at "go"
  refine ⟨r, T, i, rfl, hr, fun H1 f1 hr1 => ?_⟩
  walk_at "go"
  refine ⟨r, T, _, f, rfl, hr1, t1, hf, fun H2 f2 hr2 => ?_⟩
  walk_at "go"
  refine ⟨r, T, _, sLp, rfl, hr2, t2, fun H3 f3 hr3 => ?_⟩
  walk_at "go"
  rename_i p H4 hp4 e4 hl4
  have hr4 : RdAt K H4 r T (i + 1 + 1 + 1) := by walk_at "rd"
  have f4 : Fx r H H4 := by walk_at "fx"
  have f03 : Fx r H H3 := by walk_at "fx"
  have hpr : r ≠ p := rd_ne hr4 hl4
  have hp : H p = none := fx_free f03 hpr.symm hp4
  have fin : ∀ (D : Ends) (H5 : Hp) (ws : List V) (pos : Nat), D.rt = Q → Fx r H H5 → RdAt K H5 r T pos → T.drop pos = .s sRp :: (toTk t ++ .s sSc :: rest) → H5 p = some (.lst ws) → DpAll K H5 ws (es.map Ex.da) →
      (tSeq (tDrop (tMeth (He.ga K "Reader") "need_sign" (sp_need_sign K) [] E0 (tVar 0) (tCons (tC (.str (mk [41]))) tNil))) (tSeq (tAsg (tC .non) (gName 3)) (tSeq (tIfS (tB (tMeth (He.ga K "Reader") "is_word" (sp_is_word K) [] E0 (tVar 0) (tCons (tC (.str (mk [116, 111]))) tNil)))
        (tSeq (tDrop (tMeth (He.ga K "Reader") "step" (sp_step K) [] E0 (tVar 0) tNil)) (tAsg (tMeth (He.ga K "Reader") "need_name" (sp_need_name K) [] E0 (tVar 0) tNil) (gName 3))) tNext)
        (tSeq (tDrop (tMeth (He.ga K "Reader") "need_sign" (sp_need_sign K) [] E0 (tVar 0) (tCons (tC (.str (mk [59]))) tNil))) (tRet (tTup (tCons (tC (.str (mk [99, 97, 108, 108]))) (tCons (tVar 1) (tCons (tCB (cTup K) (tCons (tVar 2) tNil)) (tCons (tVar 3) tNil)))))))))) D
        [some (.ref r), some (.str (mk f)), some (.ref p), none] H5 := fun D H5 ws pos eD f5 hr5 h5 hl5 hd5 => by
    have epos := drop_inj h5 d4
    subst epos
    walk_at "go"
    refine ⟨r, T, _, sRp, rfl, hr5, t4, fun H6 f6 hr6 => ?_⟩
    have hl6 := f6 p _ hpr.symm hl5
    walk_at "go"
    have last : ∀ (D : Ends) (H7 : Hp) (v : V), D.rt = Q → Fx r H H7 → Fx r H5 H7 → RdAt K H7 r T (i + 1 + 1 + 1 + (commas (es.map Ex.tk)).length + 1 + (toTk t).length) → H7 p = some (.lst ws) → v = (match t with | none => .non | some x => .str (mk x)) →
        (tSeq (tDrop (tMeth (He.ga K "Reader") "need_sign" (sp_need_sign K) [] E0 (tVar 0) (tCons (tC (.str (mk [59]))) tNil))) (tRet (tTup (tCons (tC (.str (mk [99, 97, 108, 108]))) (tCons (tVar 1) (tCons (tCB (cTup K) (tCons (tVar 2) tNil)) (tCons (tVar 3) tNil))))))) D
        [some (.ref r), some (.str (mk f)), some (.ref p), some v] H7 := fun D H7 v eD2 f7 f57 hr7 hl7 ev => by
      walk_at "go"
      refine ⟨r, T, _, sSc, rfl, hr7, t6, fun H8 f8 hr8 => ?_⟩
      have hl8 := f8 p _ hpr.symm hl7
      walk_at "go"
      refine w_tupL (SqL.of hl8) fun z H9 hz e9 hl9 => ?_
      walk_at "go"
      rename_i p2 H10 hp10 e10 hl10
      have k5 : Fx r H5 H10 := f57.trans (f8.trans (same_fx (e9.trans e10)))
      have a1 : DpAll K H10 ws (es.map Ex.da) := dp_keepAll (fun _ _ y => k5.sqt (rd_no hr5) y) _ _ (exs_plain es) hd5
      have a2 : Dp K H10 v (optDa t) := by
        rw [ev]
        cases t with
        | none => exact .non
        | some x => exact .str _
      rw [eD2]
      exact q _ H10 (by walk_at "fx") (rd_i (by walk_at "rd") en) (.tup (SqT.of hl10) (.cons (.str _) (.cons (.str _) (.cons (.tup (SqT.of (e10 _ _ hl9)) a1) (.cons a2 .nil)))))
    refine ⟨r, T, _, kTo, rfl, hr6, fun H7 e7 => ?_⟩
    have hl7 := e7 _ _ hl6
    cases t with
    | none =>
      have t5 : T[i + 1 + 1 + 1 + (commas (es.map Ex.tk)).length + 1]? = some (.s sSc) := at_cons d5
      rw [isW_at t5]
      refine w_bl2 ?_
      refine w_f rfl ?_
      exact last _ H7 .non eD (by walk_at "fx") (by walk_at "fx") (rd_i (by walk_at "rd") rfl) hl7 rfl
    | some x =>
      have d5' : T.drop (i + 1 + 1 + 1 + (commas (es.map Ex.tk)).length + 1) = .w kTo :: .w x :: .s sSc :: rest := d5
      have t5 := at_cons d5'
      have d7 := nx_cons d5'
      have t7 := at_cons d7
      rw [isW_at t5]
      refine w_bl2 ?_
      refine w_t rfl ?_
      walk_at "go"
      refine ⟨r, T, _, rfl, by walk_at "rd", fun H8 f8 hr8 => ?_⟩
      have hl8 := f8 p _ hpr.symm hl7
      walk_at "go"
      refine ⟨r, T, _, x, rfl, hr8, t7, ht x rfl, fun H9 f9 hr9 => ?_⟩
      have hl9 := f9 p _ hpr.symm hl8
      exact last _ H9 (.str (mk x)) eD (by walk_at "fx") (by walk_at "fx") (rd_i (by walk_at "rd") rfl) hl9 rfl
  cases es with
  | nil =>
    have t3 : T[i + 1 + 1 + 1]? = some (.s sRp) := at_cons d3
    refine ⟨r, T, _, sRp, rfl, hr4, fun H5 e5 => ?_⟩
    rw [isS_at t3]
    refine w_bl2 ?_
    refine w_f rfl ?_
    exact fin _ H5 [] _ rfl (by walk_at "fx") (by walk_at "rd") d3 (e5 _ _ hl4) .nil
  | cons e es' =>
    have ep : commas ((e :: es').map Ex.tk) = e.tk ++ ctl (es'.map Ex.tk) := by rw [List.map_cons, commas_ctl]
    have d3' : T.drop (i + 1 + 1 + 1) = e.tk ++ (ctl (es'.map Ex.tk) ++ .s sRp :: (toTk t ++ .s sSc :: rest)) := by rw [d3, ep, List.append_assoc]
    obtain ⟨k0, ts0, ek, k1⟩ := ex_firstP e (he e List.mem_cons_self)
    have t3 : T[i + 1 + 1 + 1]? = some k0 := at_cons (r := ts0 ++ (ctl (es'.map Ex.tk) ++ .s sRp :: (toTk t ++ .s sSc :: rest))) (by rw [d3', ek]; rfl)
    have d8 := at_app d3'
    refine ⟨r, T, _, sRp, rfl, hr4, fun H5 e5 => ?_⟩
    have hl5 := e5 _ _ hl4
    rw [isS_at t3, k1]
    refine w_bl2 ?_
    refine w_t rfl ?_
    walk_at "go"
    refine ⟨r, T, _, e, 3, _, rfl, rfl, by omega, by walk_at "rd", d3', ex_up (by decide) (he e List.mem_cons_self), fun v H6 f6 hr6 hd6 => ?_⟩
    have hl6 := f6 p _ hpr.symm hl5
    walk_at "go"
    refine w_appR (r := r) (H0 := H) (by walk_at "fx") hp hl6 (by decide) fun H7 f7 g7 hl7 => ?_
    have hr7 := rd_fx g7 (noTup_lst hl6) hpr hr6
    have hd7 : Dp K H7 v e.da := dp_fx g7 (noTup_lst hl6) (ex_plain e) hd6
    refine l_whilel (fun m σ H' => ∃ k pos ws, k ≤ es'.length ∧ m = es'.length - k ∧ σ = [some (.ref r), some (.str (mk f)), some (.ref p), none] ∧ Fx r H H' ∧ RdAt K H' r T pos ∧ T.drop pos = ctl ((es'.drop k).map Ex.tk) ++ .s sRp :: (toTk t ++ .s sSc :: rest) ∧ H' p = some (.lst ws) ∧ DpAll K H' ws ((e :: es'.take k).map Ex.da)) es'.length
      ⟨0, _, [v], Nat.zero_le _, rfl, rfl, f7, hr7, d8, hl7, .cons hd7 .nil⟩ ?_
    rintro m σ' H' ⟨k, pos, ws, hkk, rfl, rfl, fH, hrH, hdH, hlH, hwH⟩
    walk_at "go"
    refine ⟨r, T, pos, sCm, rfl, hrH, fun H8 e8 => ?_⟩
    have hl8 := e8 _ _ hlH
    by_cases hlt : k < es'.length
    · have ed : es'.drop k = es'[k] :: es'.drop (k + 1) := List.drop_eq_getElem_cons hlt
      have hek := he _ (List.mem_cons_of_mem _ (List.getElem_mem hlt))
      rw [ed] at hdH
      have hdH' : T.drop pos = .s sCm :: (es'[k].tk ++ (ctl ((es'.drop (k + 1)).map Ex.tk) ++ .s sRp :: (toTk t ++ .s sSc :: rest))) := by
        rw [hdH]
        show (Tk.s sCm :: (es'[k].tk ++ ctl ((es'.drop (k + 1)).map Ex.tk))) ++ _ = _
        rw [List.cons_append, List.append_assoc]
      have u0 := at_cons hdH'
      have w1 := nx_cons hdH'
      have w2 := at_app w1
      rw [isS_at u0]
      refine w_bl2 ?_
      refine w_t rfl (turn_mk ?_)
      walk_at "go"
      refine ⟨r, T, pos, rfl, by walk_at "rd", fun H9 f9 hr9 => ?_⟩
      have hl9 := f9 p _ hpr.symm hl8
      walk_at "go"
      refine ⟨r, T, pos + 1, es'[k], 3, _, rfl, rfl, by omega, hr9, w1, ex_up (by decide) hek, fun v2 H10 f10 hr10 hd10 => ?_⟩
      have hl10 := f10 p _ hpr.symm hl9
      walk_at "go"
      refine w_appR (r := r) (H0 := H) (by walk_at "fx") hp hl10 (by have := dpall_len hwH; rw [List.length_map, List.length_cons, List.length_take] at this; rw [List.length_cons] at hn; omega) fun H11 f11 g11 hl11 => ?_
      refine ⟨es'.length - (k + 1), by omega, k + 1, _, _, by omega, rfl, rfl, f11, rd_fx g11 (noTup_lst hl10) hpr hr10, w2, hl11, ?_⟩
      have k8 : Fx r H' H10 := (same_fx e8).trans (f9.trans f10)
      have a1 := dp_keepAll (K := K) (fun _ _ y => g11.sqt (noTup_lst hl10) (k8.sqt (rd_no hrH) y)) _ _ (exs_plain _) hwH
      have a2 : Dp K H11 v2 es'[k].da := dp_fx g11 (noTup_lst hl10) (ex_plain _) hd10
      rw [take_succ_get (List.getElem?_eq_getElem hlt), ← List.cons_append, List.map_append]
      exact dpall_snoc a1 a2
    · have hkl : k = es'.length := by omega
      subst hkl
      rw [List.drop_length] at hdH
      have hdH' : T.drop pos = .s sRp :: (toTk t ++ .s sSc :: rest) := hdH
      rw [isS_at (at_cons hdH')]
      refine w_bl2 ?_
      refine w_f rfl ?_
      refine fin _ H8 ws pos rfl (by walk_at "fx") (by walk_at "rd") hdH' hl8 ?_
      rw [List.take_length] at hwH
      exact dp_keepAll (fun _ _ y => same_sqt e8 y) _ _ (exs_plain _) hwH
end Cc
namespace Cc
/-! ### blocks and statements -/
def NotElse (rest : List Tk) : Prop := ∀ r, rest ≠ .w kElse :: r
theorem sm_first {s : Sm} {m : Nat} (h : s.ok m) : ∃ x ts, s.tk = .w x :: ts ∧ x ≠ kElse := by
  have nm : ∀ x : Tx, nameOk x = true → x ≠ kElse := fun x hx z => by
    subst z
    revert hx
    decide
  cases s with
  | set x e => exact ⟨x, _, by simp only [Sm.tk]; rfl, nm x (sm_set h).1⟩
  | ask x => exact ⟨kAsk, _, by simp only [Sm.tk]; rfl, by decide⟩
  | tell k e => exact ⟨tellRet k, _, by simp only [Sm.tk]; rfl, by cases k <;> decide⟩
  | chk k c => exact ⟨chkNeed k, _, by simp only [Sm.tk]; rfl, by cases k <;> decide⟩
  | call f es t => exact ⟨kCall, _, by simp only [Sm.tk]; rfl, by decide⟩
  | ite c a b => exact ⟨kIf, _, by simp only [Sm.tk]; rfl, by decide⟩
  | whil c a => exact ⟨kWhile, _, by simp only [Sm.tk]; rfl, by decide⟩
def sp_read_block (K : PySem.W.Frag) (n : Nat) : Sp := fun vs H Q _ => ∃ (r : Addr) (T : List Tk) (i : Nat) (b : List Sm) (m : Nat) (rest : List Tk), vs = [.ref r] ∧ n = m + 1 ∧ m ≤ 3 ∧ RdAt K H r T i ∧ T.drop i = blkTk b ++ rest ∧ (∀ s ∈ b, s.ok m) ∧ b.length ≤ 60 ∧
  RetD K r T (i + (blkTk b).length) (.tuple (Sm.das b)) H Q
def sp_read_statement (K : PySem.W.Frag) (n : Nat) : Sp := fun vs H Q _ => ∃ (r : Addr) (T : List Tk) (i : Nat) (s : Sm) (m : Nat) (rest : List Tk), vs = [.ref r] ∧ n = m + 1 ∧ m ≤ 3 ∧ RdAt K H r T i ∧ T.drop i = s.tk ++ rest ∧ NotElse rest ∧ s.ok m ∧
  RetD K r T (i + s.tk.length) s.da H Q
def sp_read_if (K : PySem.W.Frag) (n : Nat) : Sp := fun vs H Q _ => ∃ (r : Addr) (T : List Tk) (i : Nat) (c : Co) (a b : List Sm) (m : Nat) (rest : List Tk), vs = [.ref r] ∧ n = m + 1 ∧ m ≤ 3 ∧ RdAt K H r T i ∧ T.drop i = (Sm.ite c a b).tk ++ rest ∧ NotElse rest ∧ (Sm.ite c a b).ok m ∧
  RetD K r T (i + (Sm.ite c a b).tk.length) (Sm.ite c a b).da H Q
theorem tks_cons_drop {b : List Sm} {k : Nat} (h : k < b.length) : Sm.tks (b.drop k) = b[k].tk ++ Sm.tks (b.drop (k + 1)) := by
  rw [List.drop_eq_getElem_cons h]
  simp only [Sm.tks]
theorem pu_read_block {K : PySem.W.Frag} {n : Nat} (vs : List V) (H : Hp) (Q : VK) (E : XK) (h : sp_read_block K n vs H Q E) :
    t_read_block K (sp_read_statement K n) (sp_need_sign K) (sp_is_sign K) (sp_step K) { nx := fun _ H' => Q .non H', rt := Q } (start n_read_block vs) H := by
  obtain ⟨r, T, i, b, m, rest, rfl, hm, h3, hr, hT, hk, hb, q⟩ := h
  have hT' : T.drop i = .s sLb :: (Sm.tks b ++ .s sRb :: rest) := by
    rw [hT]
    show (Tk.s sLb :: (Sm.tks b ++ [.s sRb])) ++ rest = _
    simp
  have t0 := at_cons hT'
  have d1 := nx_cons hT'
  have d2 := at_app d1
  have en : i + 1 + (Sm.tks b).length + 1 = i + (blkTk b).length := by
    simp only [blkTk, List.length_append, List.length_cons, List.length_nil]
    omega
  delta t_read_block
  walk_at "go"
  refine ⟨r, T, i, sLb, rfl, hr, t0, fun H1 f1 hr1 => ?_⟩
  walk_at "go"
  rename_i p H2 hp1 e2 hl2
  have hr2 : RdAt K H2 r T (i + 1) := by walk_at "rd"
  have f2 : Fx r H H2 := by walk_at "fx"
  have hpr : r ≠ p := rd_ne hr2 hl2
  have hp : H p = none := fx_free f1 hpr.symm hp1
  refine l_while (fun m' σ H' => ∃ k pos ws, k ≤ b.length ∧ m' = b.length - k ∧ σ = [some (.ref r), some (.ref p)] ∧ Fx r H H' ∧ RdAt K H' r T pos ∧ T.drop pos = Sm.tks (b.drop k) ++ .s sRb :: rest ∧ H' p = some (.lst ws) ∧ DpAll K H' ws (Sm.das (b.take k))) b.length
    ⟨0, i + 1, [], Nat.zero_le _, rfl, rfl, f2, hr2, d1, hl2, by simp only [List.take_zero, Sm.das]; exact .nil⟩ ?_
  rintro m' σ' H' ⟨k, pos, ws, hkk, rfl, rfl, fH, hrH, hdH, hlH, hwH⟩
  walk_at "go"
  refine ⟨r, T, pos, sRb, rfl, hrH, fun H3 e3 => ?_⟩
  have hl3 := e3 _ _ hlH
  by_cases hlt : k < b.length
  · rw [tks_cons_drop hlt] at hdH
    have ks := hk _ (List.getElem_mem hlt)
    obtain ⟨x, ts, es, _⟩ := sm_first ks
    have t3 : T[pos]? = some (.w x) := at_cons (r := ts ++ (Sm.tks (b.drop (k + 1)) ++ .s sRb :: rest)) (by rw [hdH, es, List.append_assoc] <;> rfl)
    have hd' : T.drop pos = b[k].tk ++ (Sm.tks (b.drop (k + 1)) ++ .s sRb :: rest) := by rw [hdH, List.append_assoc]
    have w2 := at_app hd'
    have ne : NotElse (Sm.tks (b.drop (k + 1)) ++ .s sRb :: rest) := by
      intro r' z
      by_cases hlt2 : k + 1 < b.length
      · rw [tks_cons_drop hlt2] at z
        obtain ⟨y, ts2, es2, hy⟩ := sm_first (hk _ (List.getElem_mem hlt2))
        rw [es2] at z
        injection z with z1 z2
        injection z1 with z3
        exact hy z3
      · rw [List.drop_eq_nil_of_le (by omega)] at z
        simp only [Sm.tks, List.nil_append] at z
        injection z with z1 z2
        cases z1
    rw [isS_at t3]
    refine w_bl2 ?_
    refine w_t rfl (turn_mk ?_)
    walk_at "go"
    refine ⟨r, T, pos, b[k], m, _, rfl, hm, h3, by walk_at "rd", hd', ne, ks, fun v H4 f4 hr4 hd4 => ?_⟩
    have hl4 := f4 p _ hpr.symm hl3
    walk_at "go"
    refine w_appR (r := r) (H0 := H) (by walk_at "fx") hp hl4 (by have := dpall_len hwH; rw [das_map, List.length_map, List.length_take] at this; omega) fun H5 f5 g5 hl5 => ?_
    refine ⟨b.length - (k + 1), by omega, k + 1, _, _, by omega, rfl, rfl, f5, rd_fx g5 (noTup_lst hl4) hpr hr4, w2, hl5, ?_⟩
    have k4 : Fx r H' H4 := (same_fx e3).trans f4
    have a1 := dp_keepAll (K := K) (fun _ _ y => g5.sqt (noTup_lst hl4) (k4.sqt (rd_no hrH) y)) _ _ (das_plain _) hwH
    have a2 : Dp K H5 v b[k].da := dp_fx g5 (noTup_lst hl4) (sm_plain _) hd4
    rw [das_map, take_succ_get (List.getElem?_eq_getElem hlt), List.map_append, ← das_map]
    exact dpall_snoc a1 a2
  · have hkl : k = b.length := by omega
    subst hkl
    rw [List.drop_length] at hdH
    have hdH' : T.drop pos = .s sRb :: rest := by simpa [Sm.tks] using hdH
    rw [isS_at (at_cons hdH')]
    refine w_bl2 ?_
    refine w_f rfl ?_
    walk_at "go"
    refine ⟨r, T, pos, rfl, by walk_at "rd", fun H4 f4 hr4 => ?_⟩
    have hl4 := f4 p _ hpr.symm hl3
    walk_at "go"
    refine w_tupL (SqL.of hl4) fun z H5 hz e5 hl5 => ?_
    have epos := drop_inj hdH' d2
    rw [List.take_length] at hwH
    have k5 : Fx r H' H5 := (same_fx e3).trans (f4.trans (same_fx e5))
    exact q _ H5 (by walk_at "fx") (rd_i (by walk_at "rd") (by omega)) (.tup (SqT.of hl5) (dp_keepAll (fun _ _ y => k5.sqt (rd_no hrH) y) _ _ (das_plain _) hwH))
theorem ite_tk (c : Co) (a b : List Sm) : (Sm.ite c a b).tk = .w kIf :: (c.tk ++ (blkTk a ++ (if b.isEmpty then [] else .w kElse :: blkTk b))) := by
  simp only [Sm.tk, blkTk]
  cases b with
  | nil => simp
  | cons s r => simp
theorem pu_read_if {K : PySem.W.Frag} {n : Nat} (vs : List V) (H : Hp) (Q : VK) (E : XK) (h : sp_read_if K (n + 1) vs H Q E) :
    t_read_if K (sp_read_condition K 3) (sp_read_block K n) (sp_step K) (sp_is_word K) { nx := fun _ H' => Q .non H', rt := Q } (start n_read_if vs) H := by
  obtain ⟨r, T, i, c, a, b, m, rest, rfl, hm, h3, hr, hT, hne, hk, q⟩ := h
  obtain ⟨j, rfl, hc, la, lb, ka, kb⟩ := sm_ite hk
  rw [ite_tk] at hT q
  have hT' : T.drop i = .w kIf :: (c.tk ++ (blkTk a ++ ((if b.isEmpty then [] else .w kElse :: blkTk b) ++ rest))) := by
    rw [hT]
    simp
  have d1 := nx_cons hT'
  have d2 := at_app d1
  have d3 := at_app d2
  delta t_read_if
  walk_at "go"
  refine ⟨r, T, i, rfl, hr, fun H1 f1 hr1 => ?_⟩
  walk_at "go"
  refine ⟨r, T, i + 1, c, 2, _, rfl, rfl, by omega, hr1, d1, hc, fun vc H2 f2 hr2 hd2 => ?_⟩
  walk_at "go"
  refine ⟨r, T, _, a, j, _, rfl, by omega, by omega, hr2, d2, ka, by omega, fun va H3 f3 hr3 hd3 => ?_⟩
  walk_at "go"
  rename_i p H4 hp e4 hl4
  refine ⟨r, T, _, kElse, rfl, by walk_at "rd", fun H5 e5 => ?_⟩
  have hl5 := e5 _ _ hl4
  cases b with
  | nil =>
    have hw : isW T (i + 1 + c.tk.length + (blkTk a).length) kElse = false := by
      cases hq : T[i + 1 + c.tk.length + (blkTk a).length]? with
      | none =>
        unfold isW
        rw [hq]
      | some k =>
        rw [isW_at hq]
        cases k with
        | w x =>
          refine decide_eq_false fun z => ?_
          subst z
          have d4 : T.drop (i + 1 + c.tk.length + (blkTk a).length) = rest := by simpa using d3
          have hlt := (List.getElem?_eq_some_iff.mp hq).1
          rw [List.drop_eq_getElem_cons hlt] at d4
          have e6 : T[i + 1 + c.tk.length + (blkTk a).length] = .w kElse := (List.getElem?_eq_some_iff.mp hq).2
          rw [e6] at d4
          exact hne _ d4.symm
        | n _ => rfl
        | s _ => rfl
    rw [hw]
    walk_at "go"
    rename_i p6 H6 hp6 e6 hl6
    have a1 : Dp K H6 vc c.da := by walk_at "dpf"
    have a2 : Dp K H6 va (.tuple (Sm.das a)) := by walk_at "dpf"
    have hnil : Dp K H6 (.ref p) (.tuple (Sm.das [])) := .tup (SqT.of (e6 _ _ hl5)) (by simp only [Sm.das]; exact .nil)
    have hd : Dp K H6 (.ref p6) (Sm.ite c a []).da := by
      simp only [Sm.da]
      exact .tup (SqT.of hl6) (.cons (.str _) (.cons a1 (.cons a2 (.cons hnil .nil))))
    exact q _ H6 (by walk_at "fx") (rd_i (by walk_at "rd") (by simp only [List.isEmpty_nil, if_true, List.length_append, List.length_cons, List.length_nil]; omega)) hd
  | cons s0 b' =>
    have d3' : T.drop (i + 1 + c.tk.length + (blkTk a).length) = .w kElse :: (blkTk (s0 :: b') ++ rest) := d3
    have t3 := at_cons d3'
    have d4 := nx_cons d3'
    rw [isW_at t3]
    refine w_bl2 ?_
    refine w_t rfl ?_
    walk_at "go"
    refine ⟨r, T, _, rfl, by walk_at "rd", fun H6 f6 hr6 => ?_⟩
    walk_at "go"
    refine ⟨r, T, _, s0 :: b', j, _, rfl, by omega, by omega, hr6, d4, kb, by omega, fun vb H7 f7 hr7 hd7 => ?_⟩
    walk_at "go"
    rename_i p8 H8 hp8 e8 hl8
    have a1 : Dp K H8 vc c.da := by walk_at "dpf"
    have a2 : Dp K H8 va (.tuple (Sm.das a)) := by walk_at "dpf"
    have a3 : Dp K H8 vb (.tuple (Sm.das (s0 :: b'))) := by walk_at "dpf"
    have hd : Dp K H8 (.ref p8) (Sm.ite c a (s0 :: b')).da := by
      simp only [Sm.da]
      exact .tup (SqT.of hl8) (.cons (.str _) (.cons a1 (.cons a2 (.cons a3 .nil))))
    refine q _ H8 (by walk_at "fx") (rd_i (by walk_at "rd") ?_) hd
    show _ = i + (Tk.w kIf :: (c.tk ++ (blkTk a ++ Tk.w kElse :: blkTk (s0 :: b')))).length
    simp only [List.length_append, List.length_cons]
    omega
end Cc
namespace Cc
theorem whil_tk (c : Co) (a : List Sm) : (Sm.whil c a).tk = .w kWhile :: (c.tk ++ blkTk a) := by
  simp only [Sm.tk, blkTk]
theorem pu_read_statement {K : PySem.W.Frag} {n : Nat} (vs : List V) (H : Hp) (Q : VK) (E : XK) (h : sp_read_statement K (n + 1) vs H Q E) :
    t_read_statement K (sp_read_if K (n + 1)) (sp_read_condition K 3) (sp_read_block K n) (sp_read_call K) (sp_read_expression K 4) (sp_kind K) (sp_value K) (sp_step K) (sp_need_name K) (sp_need_sign K) { nx := fun _ H' => Q .non H', rt := Q } (start n_read_statement vs) H := by
  obtain ⟨r, T, i, s, m, rest, rfl, hm, h3, hr, hT, hne, hk, q⟩ := h
  have hn' : n = m := by omega
  subst hn'
  obtain ⟨x0, ts0, es0, _⟩ := sm_first hk
  have t0 : T[i]? = some (.w x0) := at_cons (r := ts0 ++ rest) (by rw [hT, es0]; rfl)
  delta t_read_statement
  walk_at "go"
  refine ⟨r, T, i, rfl, hr, fun H1 e1 => ?_⟩
  rw [kind_at t0]
  dsimp only [kindV]
  walk_at "go"
  refine ⟨r, T, i, rfl, by walk_at "rd", fun H2 e2 => ?_⟩
  rw [val_at t0]
  dsimp only [valV]
  have hr2 : RdAt K H2 r T i := by walk_at "rd"
  have f2 : Fx r H H2 := by walk_at "fx"
  cases s with
  | ite c a b =>
    have ex : x0 = kIf := by
      simp only [Sm.tk] at es0
      injection es0 with a1 a2
      injection a1 with a3
      exact a3.symm
    subst ex
    walk_at "go"
    exact ⟨r, T, i, c, a, b, n, rest, rfl, rfl, h3, hr2, hT, hne, hk, fun v H3 f3 => q v H3 (f2.trans f3)⟩
  | whil c a =>
    have ex : x0 = kWhile := by
      simp only [Sm.tk] at es0
      injection es0 with a1 a2
      injection a1 with a3
      exact a3.symm
    subst ex
    obtain ⟨j, rfl, hc, la, ka⟩ := sm_whil hk
    rw [whil_tk] at hT q
    have hT' : T.drop i = .w kWhile :: (c.tk ++ (blkTk a ++ rest)) := by
      rw [hT]
      simp
    have d1 := nx_cons hT'
    have d2 := at_app d1
    walk_at "go"
    refine ⟨r, T, i, rfl, hr2, fun H3 f3 hr3 => ?_⟩
    walk_at "go"
    refine ⟨r, T, i + 1, c, 2, _, rfl, rfl, by omega, hr3, d1, hc, fun vc H4 f4 hr4 hd4 => ?_⟩
    walk_at "go"
    refine ⟨r, T, _, a, j, _, rfl, rfl, by omega, hr4, d2, ka, by omega, fun va H5 f5 hr5 hd5 => ?_⟩
    walk_at "go"
    rename_i p H6 hp e6 hl6
    have a1 : Dp K H6 vc c.da := by walk_at "dpf"
    have a2 : Dp K H6 va (.tuple (Sm.das a)) := by walk_at "dpf"
    have hd : Dp K H6 (.ref p) (Sm.whil c a).da := by
      simp only [Sm.da]
      exact .tup (SqT.of hl6) (.cons (.str _) (.cons a1 (.cons a2 .nil)))
    exact q _ H6 (by walk_at "fx") (rd_i (by walk_at "rd") (by simp only [List.length_append, List.length_cons]; omega)) hd
  | call f es t =>
    have ex : x0 = kCall := by
      simp only [Sm.tk] at es0
      injection es0 with a1 a2
      injection a1 with a3
      exact a3.symm
    subst ex
    walk_at "go"
    exact ⟨r, T, i, f, es, t, _, rest, rfl, hr2, hT, hk, fun v H3 f3 => q v H3 (f2.trans f3)⟩
  | ask x =>
    have ex : x0 = kAsk := by
      simp only [Sm.tk] at es0
      injection es0 with a1 a2
      injection a1 with a3
      exact a3.symm
    subst ex
    have hT' : T.drop i = .w kAsk :: .w x :: .s sSc :: rest := by
      rw [hT]
      simp [Sm.tk]
    have d1 := nx_cons hT'
    have t1 := at_cons d1
    have d2 := nx_cons d1
    have t2 := at_cons d2
    walk_at "go"
    refine ⟨r, T, i, rfl, by walk_at "rd", fun H4 f4 hr4 => ?_⟩
    walk_at "go"
    refine ⟨r, T, _, x, rfl, hr4, t1, sm_ask hk, fun H5 f5 hr5 => ?_⟩
    walk_at "go"
    refine ⟨r, T, _, sSc, rfl, hr5, t2, fun H6 f6 hr6 => ?_⟩
    walk_at "go"
    rename_i p H7 hp e7 hl7
    have hd : Dp K H7 (.ref p) (Sm.ask x).da := by
      simp only [Sm.da]
      exact .tup (SqT.of hl7) (.cons (.str _) (.cons (.str _) .nil))
    exact q _ H7 (by walk_at "fx") (rd_i (by walk_at "rd") (by simp only [Sm.tk, List.length_cons, List.length_nil])) hd
  | tell k e =>
    have ex : x0 = tellRet k := by
      simp only [Sm.tk] at es0
      injection es0 with a1 a2
      injection a1 with a3
      exact a3.symm
    subst ex
    have he := sm_tell hk
    have hT' : T.drop i = .w (tellRet k) :: (e.tk ++ .s sSc :: rest) := by
      rw [hT]
      simp [Sm.tk]
    have d1 := nx_cons hT'
    have d2 := at_app d1
    have t2 := at_cons d2
    cases k <;> (
      dsimp only [tellRet]
      walk_at "go"
      refine ⟨r, T, i, rfl, by walk_at "rd", fun H4 f4 hr4 => ?_⟩
      walk_at "go"
      refine ⟨r, T, _, e, 3, _, rfl, rfl, by omega, by walk_at "rd", d1, he, fun v H5 f5 hr5 hd5 => ?_⟩
      walk_at "go"
      refine ⟨r, T, _, sSc, rfl, hr5, t2, fun H6 f6 hr6 => ?_⟩
      walk_at "go"
      rename_i p H7 hp e7 hl7
      have a1 : Dp K H7 v e.da := by walk_at "dpf"
      refine q _ H7 (by walk_at "fx") (rd_i (by walk_at "rd") (by simp only [Sm.tk, List.length_append, List.length_cons, List.length_nil]; omega)) ?_
      simp only [Sm.da]
      exact .tup (SqT.of hl7) (.cons (.str _) (.cons a1 .nil)))
  | chk k c =>
    have ex : x0 = chkNeed k := by
      simp only [Sm.tk] at es0
      injection es0 with a1 a2
      injection a1 with a3
      exact a3.symm
    subst ex
    have hc := sm_chk hk
    have hT' : T.drop i = .w (chkNeed k) :: (c.tk ++ .s sSc :: rest) := by
      rw [hT]
      simp [Sm.tk]
    have d1 := nx_cons hT'
    have d2 := at_app d1
    have t2 := at_cons d2
    cases k <;> (
      dsimp only [chkNeed]
      walk_at "go"
      refine ⟨r, T, i, rfl, by walk_at "rd", fun H4 f4 hr4 => ?_⟩
      walk_at "go"
      refine ⟨r, T, _, c, 2, _, rfl, rfl, by omega, by walk_at "rd", d1, hc, fun v H5 f5 hr5 hd5 => ?_⟩
      walk_at "go"
      refine ⟨r, T, _, sSc, rfl, hr5, t2, fun H6 f6 hr6 => ?_⟩
      walk_at "go"
      rename_i p H7 hp e7 hl7
      have a1 : Dp K H7 v c.da := by walk_at "dpf"
      refine q _ H7 (by walk_at "fx") (rd_i (by walk_at "rd") (by simp only [Sm.tk, List.length_append, List.length_cons, List.length_nil]; omega)) ?_
      simp only [Sm.da]
      exact .tup (SqT.of hl7) (.cons (.str _) (.cons a1 .nil)))
  | set x e =>
    have ex : x0 = x := by
      simp only [Sm.tk] at es0
      injection es0 with a1 a2
      injection a1 with a3
      exact a3.symm
    subst ex
    obtain ⟨hx, he⟩ := sm_set hk
    have hT' : T.drop i = .w x0 :: .s sEq :: (e.tk ++ .s sSc :: rest) := by
      rw [hT]
      simp [Sm.tk]
    have d1 := nx_cons hT'
    have t1 := at_cons d1
    have d2 := nx_cons d1
    have d3 := at_app d2
    have t3 := at_cons d3
    have hnr : ∀ y ∈ resv, x0 ≠ y := fun y hy z => by
      subst z
      unfold nameOk at hx
      simp only [Bool.and_eq_true, Bool.not_eq_true'] at hx
      rw [List.contains_eq_mem, decide_eq_false_iff_not] at hx
      exact hx.2 hy
    walk_at "go"
    refine w_f (decide_eq_false (hnr kIf (by decide))) ?_
    walk_at "go"
    refine w_f (decide_eq_false (hnr kWhile (by decide))) ?_
    walk_at "go"
    refine w_f (decide_eq_false (hnr kCall (by decide))) ?_
    walk_at "go"
    have hin : inV (.str (mk x0)) (sgV [kAsk, kTell, kCheck, kNeed, kReturn]) = false := by
      rw [inV_sgV, List.contains_eq_mem, decide_eq_false_iff_not]
      intro hm
      simp only [List.mem_cons, List.not_mem_nil, or_false] at hm
      rcases hm with h | h | h | h | h <;> exact hnr _ (by decide) h
    refine w_f hin ?_
    walk_at "go"
    refine ⟨r, T, i, x0, rfl, by walk_at "rd", t0, hx, fun H4 f4 hr4 => ?_⟩
    walk_at "go"
    refine ⟨r, T, _, sEq, rfl, hr4, t1, fun H5 f5 hr5 => ?_⟩
    walk_at "go"
    refine ⟨r, T, _, e, 3, _, rfl, rfl, by omega, hr5, d2, he, fun v H6 f6 hr6 hd6 => ?_⟩
    walk_at "go"
    refine ⟨r, T, _, sSc, rfl, hr6, t3, fun H7 f7 hr7 => ?_⟩
    walk_at "go"
    rename_i p H8 hp e8 hl8
    have a1 : Dp K H8 v e.da := by walk_at "dpf"
    refine q _ H8 (by walk_at "fx") (rd_i (by walk_at "rd") (by simp only [Sm.tk, List.length_append, List.length_cons, List.length_nil]; omega)) ?_
    simp only [Sm.da]
    exact .tup (SqT.of hl8) (.cons (.str _) (.cons (.str _) (.cons a1 .nil)))
end Cc
namespace Cc
/-! ### the whole text -/
def sp_parse (K : PySem.W.Frag) : Sp := fun vs H Q _ => ∃ (t : Tx) (p : Pg), vs = [.str (mk t)] ∧ p.ok ∧ Lex t p.tk ∧ t.length ≤ 1000000 ∧ ∀ v H', Same H H' → Dp K H' v p.da → Q v H'
section
variable {K : PySem.W.Frag} {σ : L2.St} {H : Hp} {Q : VK} {tr : TA}
def MkR (C : Addr) (sp : Sp) (E : XK) (vs : List V) (H : Hp) (Q : VK) : Prop := ∀ x dx, H x = none → H dx = none → dx ≠ x → sp (.ref x :: vs) (upd (upd H dx (.own x)) x (.ins C dx [])) (fun v H2 => v = .non ∧ Q (.ref x) H2) E
theorem w_make {C : Addr} {sp : Sp} {E : XK} (h : tr σ H fun vs H1 => MkR C sp E vs H1 Q) : tMake C sp [] E tr σ H Q := by
  have e : (fun (vs : List V) (H1 : Hp) => ∀ x dx, H1 x = none → H1 dx = none → dx ≠ x → sp (.ref x :: (vs ++ [])) (upd (upd H1 dx (.own x)) x (.ins C dx [])) (fun v H2 => v = .non ∧ Q (.ref x) H2) E) = fun vs H1 => MkR C sp E vs H1 Q := by
    funext vs H1
    rw [List.append_nil] <;> rfl
  show tr σ H fun (vs : List V) (H1 : Hp) => ∀ x dx, H1 x = none → H1 dx = none → dx ≠ x → sp (.ref x :: (vs ++ [])) (upd (upd H1 dx (.own x)) x (.ins C dx [])) (fun v H2 => v = .non ∧ Q (.ref x) H2) E
  rw [e]
  exact h
end
theorem mk_same {H H' : Hp} {x dx C : Addr} (hx : H x = none) (hd : H dx = none) (f : Fx x (upd (upd H dx (.own x)) x (.ins C dx [])) H') : Same H H' := fun b o q => by
  have n1 := ne_of_none q hx
  have n2 := ne_of_none q hd
  refine f b o n1 ?_
  rw [upd_ne n1, upd_ne n2]
  exact q
theorem prs_plain' (l : List Pr) : plainD.plainDs (l.map Pr.da) = true := prs_plain l
theorem prsTk_drop {b : List Pr} {k : Nat} (h : k < b.length) : prsTk (b.drop k) = b[k].tk ++ prsTk (b.drop (k + 1)) := by
  rw [List.drop_eq_getElem_cons h]
  simp only [prsTk]
theorem gsTk_drop {b : List Tx} {k : Nat} (h : k < b.length) : gsTk (b.drop k) = .w kGlobal :: .w b[k] :: .s sSc :: gsTk (b.drop (k + 1)) := by
  rw [List.drop_eq_getElem_cons h]
  simp only [gsTk]
theorem pr_tk (p : Pr) : p.tk = .w kProc :: .w p.name :: .s sLp :: (psTk p.ps ++ .s sRp :: blkTk p.body) := rfl
theorem pu_parse {K : PySem.W.Frag} (vs : List V) (H : Hp) (Q : VK) (E : XK) (h : sp_parse K vs H Q E) :
    t_parse K (sp_read_names K) (sp_read_block K 4) (sp_init K) (sp_is_word K) (sp_step K) (sp_need_name K) (sp_need_sign K) (sp_kind K) (sp_need_word K) { nx := fun _ H' => Q .non H', rt := Q } (start n_parse vs) H := by
  obtain ⟨t, p, rfl, hk, hL, ht, q⟩ := h
  obtain ⟨lg, kg, lp, kp⟩ := hk
  have en : p.tk = gsTk p.gs ++ prsTk p.prs := rfl
  delta t_parse
  refine s_set (w_make ?_)
  walk_at "go"
  intro r dx hr hdx hne
  refine ⟨r, dx, t, p.tk, rfl, upd_same, hL, ht, fun H1 f1 hr1 => ⟨rfl, ?_⟩⟩
  have e1 := mk_same hr hdx f1
  walk_at "go"
  rename_i L1 H2 hL1 e2 hl2
  have hr2 : RdAt K H2 r p.tk 0 := by walk_at "rd"
  have n1 : r ≠ L1 := rd_ne hr2 hl2
  have e2' : Same H H2 := by walk_at "sm"
  have z1 : H L1 = none := by walk_at "fr"
  refine l_while (fun m σ H' => ∃ k pos, k ≤ p.gs.length ∧ m = p.gs.length - k ∧ σ = [some (.str (mk t)), some (.ref r), some (.ref L1), none, none, none] ∧ Same H H' ∧ RdAt K H' r p.tk pos ∧ p.tk.drop pos = gsTk (p.gs.drop k) ++ prsTk p.prs ∧ H' L1 = some (.lst (sgV (p.gs.take k)))) p.gs.length
    ⟨0, 0, Nat.zero_le _, rfl, rfl, e2', hr2, by rw [List.drop_zero]; exact en, hl2⟩ ?_
  rintro m σ' H' ⟨k, pos, hkk, rfl, rfl, eH, hrH, hdH, hlH⟩
  walk_at "go"
  refine ⟨r, p.tk, pos, kGlobal, rfl, hrH, fun H3 e3 => ?_⟩
  have hl3 := e3 _ _ hlH
  have hr3 : RdAt K H3 r p.tk pos := rd_same e3 hrH
  have e3' : Same H H3 := eH.trans e3
  by_cases hlt : k < p.gs.length
  · rw [gsTk_drop hlt] at hdH
    have d0 : p.tk.drop pos = .w kGlobal :: (.w p.gs[k] :: (.s sSc :: (gsTk (p.gs.drop (k + 1)) ++ prsTk p.prs))) := hdH
    have t0 := at_cons d0
    have d1 := nx_cons d0
    have t1 := at_cons d1
    have d2 := nx_cons d1
    have t2 := at_cons d2
    have d3 := nx_cons d2
    rw [isW_at t0]
    refine w_bl2 ?_
    refine w_t rfl (turn_mk ?_)
    walk_at "go"
    refine ⟨r, p.tk, pos, rfl, hr3, fun H4 f4 hr4 => ?_⟩
    have hl4 := f4 L1 _ n1.symm hl3
    walk_at "go"
    refine ⟨r, p.tk, pos + 1, p.gs[k], rfl, hr4, t1, kg _ (List.getElem_mem hlt), fun H5 f5 hr5 => ?_⟩
    have hl5 := f5 L1 _ n1.symm hl4
    have e5 : Same H H5 := fun b o qb => f5 _ _ (ne_of_none qb hr) (f4 _ _ (ne_of_none qb hr) (e3' _ _ qb))
    walk_at "go"
    refine w_app2 e5 z1 hl5 (by have := sgV_len (p.gs.take k); rw [List.length_take] at this; omega) fun H6 e6 f6 hl6 => ?_
    have hr6 := rd_fx f6 (noTup_lst hl5) n1 hr5
    walk_at "go"
    refine ⟨r, p.tk, _, sSc, rfl, hr6, t2, fun H7 f7 hr7 => ?_⟩
    have hl7 := f7 L1 _ n1.symm hl6
    have e7 : Same H H7 := fun b o qb => f7 _ _ (ne_of_none qb hr) (e6 _ _ qb)
    refine ⟨p.gs.length - (k + 1), by omega, k + 1, _, by omega, rfl, rfl, e7, hr7, d3, ?_⟩
    rw [hl7, take_succ_get (List.getElem?_eq_getElem hlt), sgV_app] <;> rfl
  · have hkl : k = p.gs.length := by omega
    subst hkl
    rw [List.drop_length] at hdH
    rw [List.take_length] at hl3
    have hdH' : p.tk.drop pos = prsTk p.prs := hdH
    have hw : isW p.tk pos kGlobal = false := by
      cases hq : p.tk[pos]? with
      | none =>
        unfold isW
        rw [hq]
      | some y =>
        rw [isW_at hq]
        have hlt := (List.getElem?_eq_some_iff.mp hq).1
        rw [List.drop_eq_getElem_cons hlt, (List.getElem?_eq_some_iff.mp hq).2] at hdH'
        cases hps : p.prs with
        | nil =>
          rw [hps] at hdH'
          cases hdH'
        | cons p0 pr =>
          rw [hps] at hdH'
          have := hdH'.trans (show prsTk (p0 :: pr) = .w kProc :: _ from rfl)
          injection this with w1 w2
          rw [w1]
          decide
    rw [hw]
    refine w_bl2 ?_
    refine w_f rfl ?_
    walk_at "go"
    rename_i L2 H4 hL2 e4 hl4
    have hr4 : RdAt K H4 r p.tk pos := rd_same e4 hr3
    have n2 : r ≠ L2 := rd_ne hr4 hl4
    have z2 : H L2 = none := by
      cases qq : H L2 with
      | none => rfl
      | some o =>
        rw [e3' _ _ qq] at hL2
        cases hL2
    have n12 : L1 ≠ L2 := ne_of_none hl3 hL2
    have hl14 := e4 _ _ hl3
    refine l_while (fun m σ H' => ∃ k pos ws w4 w5, k ≤ p.prs.length ∧ m = p.prs.length - k ∧ σ = [some (.str (mk t)), some (.ref r), some (.ref L1), some (.ref L2), w4, w5] ∧ Same H H' ∧ RdAt K H' r p.tk pos ∧ p.tk.drop pos = prsTk (p.prs.drop k) ∧ H' L1 = some (.lst (sgV p.gs)) ∧ H' L2 = some (.lst ws) ∧ DpAll K H' ws ((p.prs.take k).map Pr.da)) p.prs.length
      ⟨0, pos, [], _, _, Nat.zero_le _, rfl, rfl, e3'.trans e4, hr4, by rw [List.drop_zero]; exact hdH', hl14, hl4, .nil⟩ ?_
    rintro m σ'' H5 ⟨k, pos, ws, w4, w5, hkk, rfl, rfl, eH5, hr5, hd5, hl15, hl25, hw5⟩
    walk_at "go"
    refine ⟨r, p.tk, pos, rfl, hr5, fun H6 e6 => ?_⟩
    have hl16 := e6 _ _ hl15
    have hl26 := e6 _ _ hl25
    have hr6 : RdAt K H6 r p.tk pos := rd_same e6 hr5
    have eH6 : Same H H6 := eH5.trans e6
    by_cases hlt : k < p.prs.length
    · rw [prsTk_drop hlt, pr_tk] at hd5
      generalize hpk : p.prs[k] = c at hd5
      have kc : c.ok := by
        rw [← hpk]
        exact kp _ (List.getElem_mem hlt)
      obtain ⟨kc1, kc2, kc3, kc4, kc5⟩ := kc
      have d0 : p.tk.drop pos = .w kProc :: (.w c.name :: (.s sLp :: (psTk c.ps ++ .s sRp :: (blkTk c.body ++ prsTk (p.prs.drop (k + 1)))))) := by
        rw [hd5]
        simp
      have t0 := at_cons d0
      have d1 := nx_cons d0
      have t1 := at_cons d1
      have d2 := nx_cons d1
      have d3 := nx_cons d2
      have d4 := nx_cons (at_app d3)
      have d5 := at_app d4
      rw [kind_at t0, show kindV (Tk.w kProc) = .str (mk [119, 111, 114, 100]) from rfl]
      walk_at "go"
      refine turn_mk ?_
      walk_at "go"
      refine ⟨r, p.tk, pos, kProc, rfl, hr6, t0, fun H7 f7 hr7 => ?_⟩
      walk_at "go"
      refine ⟨r, p.tk, _, c.name, rfl, hr7, t1, kc1, fun H8 f8 hr8 => ?_⟩
      walk_at "go"
      refine ⟨r, p.tk, _, c.ps, _, rfl, hr8, d2, kc3, by omega, fun v9 H9 f9 hr9 hd9 => ?_⟩
      have g9 := f9 L2 _ n2.symm (f8 L2 _ n2.symm (f7 L2 _ n2.symm hl26))
      walk_at "go"
      refine ⟨r, p.tk, _, c.body, 3, _, rfl, rfl, by omega, hr9, d4, kc5, by omega, fun v10 H10 f10 hr10 hd10 => ?_⟩
      walk_at "go"
      rename_i pt H11 hpt e11 hl11
      have fx : Fx r H6 H10 := ((f7.trans f8).trans f9).trans f10
      have fx11 : Fx r H6 H11 := fx.trans (same_fx e11)
      have g1 := fx11 _ _ n1.symm hl16
      have g2 := fx11 _ _ n2.symm hl26
      have e11' : Same H H11 := fun b o qb => fx11 _ _ (ne_of_none qb hr) (eH6 _ _ qb)
      have a1 : Dp K H11 v9 (.tuple (c.ps.map S)) := dp_same e11 (names_plain _) (dp_fx f10 (rd_no hr9) (names_plain _) hd9)
      have a2 : Dp K H11 v10 (.tuple (Sm.das c.body)) := dp_same e11 (sms_plain _) hd10
      have a3 : Dp K H11 (.ref pt) c.da := .tup (SqT.of hl11) (.cons (.str _) (.cons a1 (.cons a2 .nil)))
      have a4 : DpAll K H11 ws ((p.prs.take k).map Pr.da) := dp_keepAll (fun _ _ y => fx11.sqt (rd_no hr6) y) _ _ (prs_plain _) (dp_keepAll (fun _ _ y => same_sqt e6 y) _ _ (prs_plain _) hw5)
      refine w_app2 e11' z2 g2 (by have := dpall_len hw5; rw [List.length_map, List.length_take] at this; omega) fun H12 e12 f12 hl12 => ?_
      have hr12 := rd_fx f12 (noTup_lst g2) n2 (rd_same e11 hr10)
      refine ⟨p.prs.length - (k + 1), by omega, k + 1, _, _, _, _, by omega, rfl, rfl, e12, hr12, d5, f12 _ _ n12 g1, hl12, ?_⟩
      rw [take_succ_get (List.getElem?_eq_getElem hlt), List.map_append, hpk]
      have b1 := dp_keepAll (K := K) (fun _ _ y => f12.sqt (noTup_lst g2) y) _ _ (prs_plain _) a4
      exact dpall_snoc b1 (dp_fx f12 (noTup_lst g2) (pr_plain _) a3)
    · have hkl : k = p.prs.length := by omega
      subst hkl
      rw [List.drop_length] at hd5
      rw [List.take_length] at hw5
      have hnone : p.tk[pos]? = none := by
        rw [List.getElem?_eq_none_iff]
        have := congrArg List.length hd5
        rw [List.length_drop] at this
        have z : (prsTk []).length = 0 := rfl
        omega
      have hk0 : kindAt p.tk pos = .str (mk []) := by
        unfold kindAt
        rw [hnone]
      rw [hk0]
      walk_at "go"
      refine w_tupL (SqL.of hl16) fun y7 H7 hy7 e7 hl7 => ?_
      walk_at "go"
      refine w_tupL (SqL.of (e7 _ _ hl26)) fun y8 H8 hy8 e8 hl8 => ?_
      walk_at "go"
      rename_i y9 H9 hy9 e9 hl9
      have b1 : Same H5 H9 := e6.trans (e7.trans (e8.trans e9))
      exact q _ H9 (eH5.trans b1) (.tup (SqT.of hl9) (.cons (.tup (SqT.of (e9 _ _ (e8 _ _ hl7))) (dpall_names _)) (.cons (.tup (SqT.of (e9 _ _ hl8)) (dp_keepAll (fun _ _ y => same_sqt b1 y) _ _ (prs_plain _) hw5)) .nil)))
end Cc
end
section
open PySem PySem.Spec PyProof.Rows L2
/-! ### small hands: what stands, sizes, one step of a reading -/
open Cc L2 in
local macro_rules | `(tactic| walk_at "sm") => `(tactic| first | exact L2.Same.refl _ | assumption | (refine' L2.Same.trans ?l ?r; (case r => assumption); (case l => walk_at "sm")))
open Cc L2 in
local macro_rules | `(tactic| walk_at "tup") => `(tactic| first | assumption | exact SqT.of (by assumption) | (refine' same_sqt ?e ?h; (case h => first | assumption | exact SqT.of (by assumption)); (case e => walk_at "sm")))
open Cc L2 in
local macro_rules | `(tactic| walk_at "lst") => `(tactic| first | assumption | exact SqL.of (by assumption) | (refine' L2.Same.seq ?e ?h; (case h => first | assumption | exact SqL.of (by assumption)); (case e => walk_at "sm")))
open Cc L2 in
local macro_rules | `(tactic| walk_at "at") => `(tactic| first | assumption | exact upd_same | (refine' same_at ?e ?h; (case h => assumption); (case e => walk_at "sm")))
open Cc L2 in
local macro_rules | `(tactic| walk_at "fr") => `(tactic| first | assumption | (refine' L2.Same.free ?e ?h; (case h => assumption); (case e => walk_at "sm")))
open Cc L2 in
local macro_rules | `(tactic| walk_at "ext") => `(tactic| ((with_reducible refine' w_ext ?e ?f ?h ?g ?n ?_); (case e => walk_at "sm"); (case f => walk_at "fr"); (case h => walk_at "at"); (case g => walk_at "at"); (case n => walk_at "sz"); intro H' e' h'))
open Cc L2 in
local macro_rules | `(tactic| walk_at "app") => `(tactic| ((with_reducible refine' w_app ?e ?f ?h ?n ?_); (case e => walk_at "sm"); (case f => walk_at "fr"); (case h => walk_at "at"); (case n => walk_at "sz"); intro H' e' h'))
open Cc L2 in
local macro_rules | `(tactic| walk_at "plain") => `(tactic| first | exact ex_plain _ | exact co_plain _ | exact sm_plain _ | exact sms_plain _ | exact pr_plain _ | exact pg_plain _ | rfl | assumption)
open Cc L2 in
local macro_rules | `(tactic| walk_at "dp") => `(tactic| first | assumption | exact Dp.str _ | exact Dp.int _ | exact Dp.non | (refine' dp_same ?e ?p ?h; (case h => assumption); (case e => walk_at "sm"); (case p => walk_at "plain")))
open Cc L2 in
local macro_rules | `(tactic| walk_at "sz") => `(tactic| first | omega | (simp only [List.length_append, List.length_cons, List.length_nil, sgV_len, List.length_replicate, List.length_map]; omega))
open Cc L2 in
local macro_rules | `(tactic| walk_at "szi") => `(tactic| (simp only [four, List.length_append, List.length_cons, List.length_nil]; omega))
open Cc L2 in
local macro_rules | `(tactic| walk_at "go1") => `(tactic| first
  | ((with_reducible refine' w_var ?h ?_); (case h => exact rfl))
  | with_reducible refine' w_c ?_
  | with_reducible refine' w_op ?_
  | with_reducible refine' w_cons ?_
  | with_reducible refine' w_nil ?_
  | ((with_reducible refine' w_ixT ?h ?e ?_); (case h => walk_at "tup"); (case e => first | exact rfl | exact atI_zero))
  | with_reducible refine' w_eqS ?_
  | ((with_reducible refine' w_addS ?h ?_); (case h => walk_at "sz"))
  | with_reducible refine' w_test ?_
  | with_reducible refine' w_B ?_
  | with_reducible refine' w_bl ?_
  | with_reducible refine' w_bl2 ?_
  | with_reducible refine' s_set ?_
  | with_reducible refine' s_when ?_
  | with_reducible refine' s_whenl ?_
  | with_reducible refine' s_if ?_
  | with_reducible refine' s_ifl ?_
  | with_reducible refine' s_ret ?_
  | with_reducible refine' s_drop ?_
  | with_reducible refine' s_dropl ?_
  | with_reducible refine' s_setl ?_
  | with_reducible refine' w_t (by decide) ?_
  | with_reducible refine' w_f (by decide) ?_
  | with_reducible refine' w_t (by with_unfolding_all exact rfl) ?_
  | with_reducible refine' w_f (by with_unfolding_all exact rfl) ?_
  | with_reducible refine' w_I0 ?_
  | with_reducible refine' w_eqI ?_
  | with_reducible refine' w_neS ?_
  | with_reducible refine' w_call ?_
  | with_reducible refine' w_callB ?_
  | with_reducible refine' w_not ?_
  | with_reducible refine' w_and ?_
  | with_reducible refine' w_or ?_
  | with_reducible refine' w_andV ?_
  | with_reducible refine' w_orV ?_
  | with_reducible refine' w_notV ?_
  | with_reducible refine' w_if ?_
  | with_reducible refine' w_m1 ?_
  | with_reducible refine' w_m1' ?_
  | with_reducible refine' w_tup ?_
  | with_reducible refine' w_lst ?_
  | ((with_reducible refine' w_newT ?n ?_); (case n => exact Nat.le_of_ble_eq_true rfl); intro p H' hp hs ht)
  | ((with_reducible refine' w_newL ?n ?_); (case n => exact Nat.le_of_ble_eq_true rfl); intro p H' hp hs ht)
  | ((with_reducible refine' w_in (Or.inr ?h) ?x ?s ?_); (case h => walk_at "tup"); (case x => exact rfl); (case s => exact rfl))
  | ((with_reducible refine' w_in (Or.inl ?h) ?x ?s ?_); (case h => walk_at "lst"); (case x => exact rfl); (case s => exact rfl))
  | with_reducible refine' w_isNone ?_
  | with_reducible refine' w_un ?_
  | with_reducible refine' w_neg ?_
  | with_reducible refine' w_inSign ?_
  | ((with_reducible refine' w_lenS ?h ?_); (case h => walk_at "sz"))
  | ((with_reducible refine' w_lenT ?h ?_); (case h => walk_at "tup"))
  | ((with_reducible refine' w_lenL ?h ?_); (case h => walk_at "lst"))
  | with_reducible refine' w_int1 ?_
  | with_reducible refine' w_abs ?_
  | ((with_reducible refine' w_strI ?h ?_); (case h => walk_at "sz"))
  | with_reducible refine' s_asg ?_
  | with_reducible refine' s_asgl ?_
  | with_reducible refine' w_bm ?_
  | ((with_reducible refine' w_tyL ?h ?_); (case h => walk_at "lst"))
  | ((with_reducible refine' w_cat ?h ?g ?n ?_); (case h => walk_at "at"); (case g => walk_at "at"); (case n => walk_at "sz"); intro p H' hp hs ht)
  | with_reducible refine' w_meth ?_)
open Cc L2 in
local macro_rules | `(tactic| walk_at "go") => `(tactic| (walk_at "go1"; repeat walk_at "go1"))
namespace Cc
/-! ### the due text -/
def hdS (x : Tx) : Bool := match x with
  | [] => true
  | c :: _ => decide (c ∈ g_LETTERS ++ g_DIGITS)
def lsign (x : Tx) : Bool := if x = sRp then false else (!hdS x || (resv.contains x || decide (x = [])))
def lgap (a b c : Tx) : Bool := if [sSc, sCm, sRp, sRs].contains c = true ∨ [sLp, sLs].contains b = true then false else if c = sLp ∧ [kProc, kCall].contains a = true then false else !(decide (b = sMi) && lsign a)
def lnGo : Tx → Tx → List Tx → Tx
  | _, _, [] => []
  | b, f, w :: r => (if lgap b f w = true then [32] else []) ++ w ++ lnGo f w r
def lineTx : List Tx → Tx
  | [] => []
  | w :: r => w ++ lnGo [] w r
def spaces (d : Nat) : Tx := (List.replicate d four).flatten
inductive LT : Nat → List Tx → List Tx → Tx → Prop where
  | nil {d : Nat} {line : List Tx} : LT d line [] []
  | word {d : Nat} {line : List Tx} {w : Tx} {r : List Tx} {out : Tx} : w ≠ sSc → w ≠ sLb → w ≠ sRb → LT d (line ++ [w]) r out → LT d line (w :: r) out
  | semi {d : Nat} {line r : List Tx} {out : Tx} : LT d [] r out → LT d line (sSc :: r) (spaces d ++ lineTx (line ++ [sSc]) ++ [10] ++ out)
  | lb {d : Nat} {line r : List Tx} {out : Tx} : LT (d + 1) [] r out → LT d line (sLb :: r) (spaces d ++ lineTx (line ++ [sLb]) ++ [10] ++ out)
  | rb {d : Nat} {line r : List Tx} {out : Tx} : r.headD [] ≠ kElse → LT d [] r out → LT (d + 1) line (sRb :: r) (spaces d ++ lineTx (line ++ [sRb]) ++ [10] ++ out)
  | rbe {d : Nat} {line r : List Tx} {out : Tx} : LT d [sRb] (kElse :: r) out → LT (d + 1) line (sRb :: kElse :: r) out
def sp__law_reserved : Sp := fun vs H Q _ => vs = [] ∧ RetL resv H Q
def sp__law_sign : Sp := fun vs H Q _ => ∃ x : Tx, vs = [.str (mk x)] ∧ x.length ≤ 1000 ∧ RetV (.bl (lsign x)) H Q
def sp__law_gap : Sp := fun vs H Q _ => ∃ a b c : Tx, vs = [.str (mk a), .str (mk b), .str (mk c)] ∧ a.length ≤ 1000 ∧ RetV (.bl (lgap a b c)) H Q
def sp__law_line (K : PySem.W.Frag) : Sp := fun vs H Q _ => ∃ (p : Addr) (ws : List Tx), vs = [.ref p] ∧ SqL K H p (sgV ws) ∧ ws.length ≤ 1000 ∧ (∀ w ∈ ws, w.length ≤ 100) ∧ RetV (.str (mk (lineTx ws))) H Q
def sp__law_text (K : PySem.W.Frag) : Sp := fun vs H Q _ => ∃ (p : Addr) (ws : List Tx) (out : Tx), vs = [.ref p] ∧ SqL K H p (sgV ws) ∧ ws.length ≤ 1000 ∧ (∀ w ∈ ws, w.length ≤ 100) ∧ LT 0 [] ws out ∧ out.length ≤ 1000000 ∧ RetV (.str (mk out)) H Q
theorem pu__law_reserved {K : PySem.W.Frag} (vs : List V) (H : Hp) (Q : VK) (E : XK) (h : sp__law_reserved vs H Q E) :
    t__law_reserved K { nx := fun _ H' => Q .non H', rt := Q } (start n__law_reserved vs) H := by
  obtain ⟨rfl, q⟩ := h
  delta t__law_reserved
  walk_at "go"
  rename_i p1 H1 hp1 e1 hl1 p2 H2 hp2 e2 hl2 p3 H3 hp3 e3 hl3
  exact q p3 H3 (by walk_at "fr") (by walk_at "sm") (by rw [hl3]; rfl)
theorem found_hd (x : Tx) : (!(Builtin.Str.occurrences (mk (g_LETTERS ++ g_DIGITS)) (mk (x.take 1)) 0 (mk (g_LETTERS ++ g_DIGITS)).length 1).isEmpty) = hdS x := by
  cases x with
  | nil => decide +kernel
  | cons c r =>
    show (!(Builtin.Str.occurrences (mk (g_LETTERS ++ g_DIGITS)) ⟨#[c]⟩ 0 (mk (g_LETTERS ++ g_DIGITS)).length 1).isEmpty) = decide (c ∈ g_LETTERS ++ g_DIGITS)
    rw [StrLaws.found_one, mk_cps]
theorem w_notInHd {H : Hp} {Q : VK} {x : Tx} (q : Q (.bl (!hdS x)) H) : rNotInStr (.str (mk (x.take 1))) (.str (mk (g_LETTERS ++ g_DIGITS))) H Q := by
  refine ⟨_, _, rfl, rfl, ?_⟩
  have e := congrArg (fun b => V.bl (!b)) (found_hd x)
  rw [show V.bl (!(!(Builtin.Str.occurrences (mk (g_LETTERS ++ g_DIGITS)) (mk (x.take 1)) 0 (mk (g_LETTERS ++ g_DIGITS)).length 1).isEmpty)) = V.bl (!hdS x) from e]
  exact q
theorem w_bl3 {K : PySem.W.Frag} {H : Hp} {Q : VK} {c : Bool} {tb : TE} {σ : L2.St} (h1 : c = true → Q (.bl true) H) (h2 : c = false → tb σ H Q) : ∃ k, V.bl c = .bl k ∧ if k = true then Q (.bl true) H else tb σ H Q := ⟨c, rfl, w_tf h1 h2⟩
theorem pu__law_sign {K : PySem.W.Frag} (vs : List V) (H : Hp) (Q : VK) (E : XK) (h : sp__law_sign vs H Q E) :
    t__law_sign K sp__law_reserved { nx := fun _ H' => Q .non H', rt := Q } (start n__law_sign vs) H := by
  obtain ⟨x, rfl, hx, q⟩ := h
  delta t__law_sign
  walk_at "go"
  unfold lsign at q
  refine w_dec (fun hc => ?_) (fun hc => ?_)
  · rw [if_pos hc] at q
    walk_at "go"
    exact q H (Same.refl H)
  · rw [if_neg hc] at q
    walk_at "go"
    refine w_sl ?_
    walk_at "go"
    refine ⟨1, rfl, mk x, rfl, by rw [mk_len]; show x.length ≤ 16777216; omega, ?_⟩
    have e : cutS (mk x) none (some 1) = mk (x.take 1) := by
      have := cutS_nat (z := x) (a := 0) (b := 1) (Nat.zero_le _) (Nat.zero_le _)
      rw [show ((0 : Nat) : Int) = 0 from rfl] at this
      have h2 : cutS (mk x) none (some 1) = cutS (mk x) (some 0) (some 1) := by
        unfold cutS
        rfl
      rw [h2]
      exact this
    rw [e]
    walk_at "go"
    refine w_notInHd (x := x) ?_
    refine w_bl3 (K := K) (fun h => ?_) (fun h => ?_)
    · rw [h] at q
      exact q H (Same.refl H)
    · rw [h] at q
      walk_at "go"
      refine ⟨rfl, fun p H1 hp e1 hl => ?_⟩
      refine w_in (Or.inl (SqL.of hl)) rfl (flat_sgV _) ?_
      rw [inV_sgV]
      refine w_bl3 (K := K) (fun h2 => ?_) (fun h2 => ?_)
      · have h2' : resv.contains x = true := h2
        rw [h2'] at q
        exact q H1 e1
      · have h2' : resv.contains x = false := h2
        rw [h2'] at q
        walk_at "go"
        exact q H1 e1
theorem w_blA {c : Bool} {A B : Prop} (h1 : c = true → A) (h2 : c = false → B) : ∃ k, V.bl c = .bl k ∧ if k = true then A else B := ⟨c, rfl, w_tf h1 h2⟩
theorem w_inC {x : Tx} (l : List Tx) {A B : Prop} (h1 : l.contains x = true → A) (h2 : l.contains x = false → B) : if (if false = true then !inV (.str (mk x)) (sgV l) else inV (.str (mk x)) (sgV l)) = true then A else B := by
  rw [if_neg (by decide : ¬ (false = true)), inV_sgV]
  exact w_tf h1 h2
theorem lgap_f {a b c : Tx} (h : [sSc, sCm, sRp, sRs].contains c = true ∨ [sLp, sLs].contains b = true) : lgap a b c = false := by
  unfold lgap
  rw [if_pos h]
theorem lgap_f2 {a b c : Tx} (h : ¬ ([sSc, sCm, sRp, sRs].contains c = true ∨ [sLp, sLs].contains b = true)) (h2 : c = sLp ∧ [kProc, kCall].contains a = true) : lgap a b c = false := by
  unfold lgap
  rw [if_neg h, if_pos h2]
theorem lgap_r {a b c : Tx} (h : ¬ ([sSc, sCm, sRp, sRs].contains c = true ∨ [sLp, sLs].contains b = true)) (h2 : ¬ (c = sLp ∧ [kProc, kCall].contains a = true)) : lgap a b c = !(decide (b = sMi) && lsign a) := by
  unfold lgap
  rw [if_neg h, if_neg h2]
theorem pu__law_gap {K : PySem.W.Frag} (vs : List V) (H : Hp) (Q : VK) (E : XK) (h : sp__law_gap vs H Q E) :
    t__law_gap K sp__law_sign { nx := fun _ H' => Q .non H', rt := Q } (start n__law_gap vs) H := by
  obtain ⟨a, b, c, rfl, ha, q⟩ := h
  have fin : ∀ (D : Ends) (H1 : Hp), D.rt = Q → Same H H1 → ¬ ([sSc, sCm, sRp, sRs].contains c = true ∨ [sLp, sLs].contains b = true) →
      (tSeq (tIfS (tAnd (tTest (tOp rEq (tVar 2) (tC (.str (mk [40]))))) (tTest (tOp (rIn K false) (tVar 0) (tTup (tCons (tC (.str (mk [112, 114, 111, 99]))) (tCons (tC (.str (mk [99, 97, 108, 108]))) tNil)))))) (tRet (tC (.bl false))) tNext)
        (tRet (tNotV (tAndV (tOp rEq (tVar 1) (tC (.str (mk [45])))) (tCall sp__law_sign [] E0 (tCons (tVar 0) tNil)))))) D [some (.str (mk a)), some (.str (mk b)), some (.str (mk c))] H1 := by
    intro D H1 hD e1 hn
    have last : ∀ (D : Ends) (H2 : Hp), D.rt = Q → Same H H2 → ¬ (c = sLp ∧ [kProc, kCall].contains a = true) →
        (tRet (tNotV (tAndV (tOp rEq (tVar 1) (tC (.str (mk [45])))) (tCall sp__law_sign [] E0 (tCons (tVar 0) tNil))))) D [some (.str (mk a)), some (.str (mk b)), some (.str (mk c))] H2 := by
      intro D H2 hD e2 hn2
      rw [lgap_r hn hn2] at q
      walk_at "go"
      refine w_tf (fun hb => ?_) (fun hb => ?_)
      · walk_at "go"
        refine ⟨a, rfl, ha, fun H3 e3 => ⟨_, rfl, ?_⟩⟩
        rw [hD]
        rw [show decide (b = sMi) = true from hb] at q
        exact q H3 (e2.trans e3)
      · refine ⟨_, rfl, ?_⟩
        rw [hD]
        rw [show decide (b = sMi) = false from hb] at q
        exact q H2 e2
    walk_at "go"
    refine w_dec (fun hc => ?_) (fun hc => ?_)
    · walk_at "go"
      rename_i p2 H2 hp2 e2 hl2
      refine w_inC [kProc, kCall] (fun h => ?_) (fun h => ?_)
      · walk_at "go"
        rw [hD]
        rw [lgap_f2 hn ⟨hc, h⟩] at q
        exact q H2 (e1.trans e2)
      · exact last _ H2 hD (e1.trans e2) (fun z => by rw [z.2] at h; cases h)
    · exact last _ H1 hD e1 (fun z => hc z.1)
  delta t__law_gap
  refine s_when ?_
  refine w_or ?_
  refine w_test ?_
  refine w_op ?_
  refine w_var rfl ?_
  walk_at "go"
  rename_i p1 H1 hp1 e1 hl1
  refine w_inC [sSc, sCm, sRp, sRs] (fun h => ?_) (fun h => ?_)
  · walk_at "go"
    rw [lgap_f (Or.inl h)] at q
    exact q H1 e1
  · refine w_test ?_
    refine w_op ?_
    refine w_var rfl ?_
    walk_at "go"
    rename_i p2 H2 hp2 e2 hl2
    refine w_inC [sLp, sLs] (fun h2 => ?_) (fun h2 => ?_)
    · walk_at "go"
      rw [lgap_f (Or.inr h2)] at q
      exact q H2 (e1.trans e2)
    · exact fin _ H2 rfl (e1.trans e2) (fun z => by
        rcases z with z | z
        · rw [z] at h; cases h
        · rw [z] at h2; cases h2)
/-- a line -/
def lnRest (ws : List Tx) : Nat → Tx
  | 0 => lineTx ws
  | k + 1 => lnGo (if k = 0 then [] else ws.getD (k - 1) []) (ws.getD k []) (ws.drop (k + 1))
theorem getD_of {ws : List Tx} {k : Nat} (h : k < ws.length) : ws.getD k [] = ws[k] := by
  rw [List.getD_eq_getElem?_getD, List.getElem?_eq_getElem h] <;> rfl
theorem lnRest_step {ws : List Tx} {k : Nat} (h : k < ws.length) : lnRest ws k = (if k = 0 then [] else if lgap (if k = 1 then [] else ws.getD (k - 2) []) (ws.getD (k - 1) []) ws[k] = true then [32] else []) ++ ws[k] ++ lnRest ws (k + 1) := by
  cases k with
  | zero =>
    cases ws with
    | nil => cases h
    | cons w r =>
      show lineTx (w :: r) = [] ++ w ++ lnGo [] w r
      rfl
  | succ j =>
    rw [if_neg (by omega)]
    have e1 : ws.drop (j + 1) = ws[j + 1] :: ws.drop (j + 1 + 1) := List.drop_eq_getElem_cons h
    show lnGo (if j = 0 then [] else ws.getD (j - 1) []) (ws.getD j []) (ws.drop (j + 1)) = (if lgap (if j + 1 = 1 then [] else ws.getD (j + 1 - 2) []) (ws.getD (j + 1 - 1) []) ws[j + 1] = true then [32] else []) ++ ws[j + 1] ++ lnGo (if j + 1 = 0 then [] else ws.getD (j + 1 - 1) []) (ws.getD (j + 1) []) (ws.drop (j + 1 + 1))
    rw [e1]
    have e2 : (if j + 1 = 1 then ([] : Tx) else ws.getD (j + 1 - 2) []) = (if j = 0 then [] else ws.getD (j - 1) []) := by
      by_cases hj : j = 0
      · subst hj
        rfl
      · rw [if_neg (by omega), if_neg hj, show j + 1 - 2 = j - 1 by omega]
    rw [e2, if_neg (by omega : ¬ j + 1 = 0), show j + 1 - 1 = j by omega, getD_of h] <;> rfl
theorem lnRest_end (ws : List Tx) : lnRest ws ws.length = [] := by
  cases ws with
  | nil => rfl
  | cons w r =>
    show lnGo _ _ ((w :: r).drop (r.length + 1)) = []
    rw [List.drop_eq_nil_of_le (by simp)] <;> rfl
theorem lnGo_len {B : Nat} : ∀ (ws : List Tx) (b f : Tx), (∀ w ∈ ws, w.length ≤ B) → (lnGo b f ws).length ≤ (B + 1) * ws.length
  | [], _, _, _ => Nat.zero_le _
  | w :: r, b, f, h => by
    have h1 := h w List.mem_cons_self
    have h2 := lnGo_len r f w fun z hz => h z (List.mem_cons_of_mem _ hz)
    unfold lnGo
    rw [List.length_append, List.length_append, List.length_cons, Nat.mul_succ]
    split <;> (simp only [List.length_cons, List.length_nil]; omega)
theorem lineTx_len {B : Nat} (ws : List Tx) (h : ∀ w ∈ ws, w.length ≤ B) : (lineTx ws).length ≤ (B + 1) * ws.length := by
  cases ws with
  | nil => exact Nat.zero_le _
  | cons w r =>
    have h1 := h w List.mem_cons_self
    have h2 := lnGo_len r [] w fun z hz => h z (List.mem_cons_of_mem _ hz)
    show (w ++ lnGo [] w r).length ≤ _
    rw [List.length_append, List.length_cons, Nat.mul_succ]
    omega
theorem sgV_at {ws : List Tx} {k : Nat} (h : k < ws.length) : (sgV ws)[k]? = some (.str (mk ws[k])) := by
  unfold sgV
  rw [List.getElem?_map, List.getElem?_eq_getElem h] <;> rfl
theorem atI_sgV {ws : List Tx} {k : Nat} {i : Int} (h : k < ws.length) (e : i = k) : atI (sgV ws) i = some (.str (mk ws[k])) := by
  subst e
  exact atI_nat (sgV_at h)
theorem pu__law_line {K : PySem.W.Frag} (vs : List V) (H : Hp) (Q : VK) (E : XK) (h : sp__law_line K vs H Q E) :
    t__law_line K sp__law_gap { nx := fun _ H' => Q .non H', rt := Q } (start n__law_line vs) H := by
  obtain ⟨p, ws, rfl, hp, hn, hb, q⟩ := h
  have hlt := lineTx_len ws hb
  have hlt2 : (lineTx ws).length ≤ 101000 := Nat.le_trans hlt (Nat.mul_le_mul_left 101 hn)
  delta t__law_line
  walk_at "go"
  refine l_forR (n := ws.length) (fun Q q => by walk_at "go"; rw [sgV_len]; exact q) (by omega)
    (fun i σ H' => ∃ acc w w2, σ = [some (.ref p), some (.str (mk acc)), w, w2] ∧ Same H H' ∧ acc ++ lnRest ws i = lineTx ws) ⟨[], none, none, rfl, Same.refl H, rfl⟩
    (fun i σ' H' hi ⟨acc, w, w2, hσ, e, ha⟩ => ?_) (fun σ' H' ⟨acc, w, w2, hσ, e, ha⟩ => ?_)
  · subst hσ
    rw [lnRest_step hi] at ha
    have hl := congrArg List.length ha
    simp only [List.length_append] at hl
    have fin : ∀ (D : Ends) (acc2 : Tx) (w3 : Option V) (H2 : Hp), D.nx = (fun σ H' => ∃ acc w w2, σ = [some (.ref p), some (.str (mk acc)), w, w2] ∧ Same H H' ∧ acc ++ lnRest ws (i + 1) = lineTx ws) → Same H H2 → acc2 ++ (ws[i] ++ lnRest ws (i + 1)) = lineTx ws →
        (tAsg (tOp rAddS (tVar 1) (tOp (rIxL K) (tVar 0) (tVar 2))) (gName 1)) D [some (.ref p), some (.str (mk acc2)), some (.int (i : Int)), w3] H2 := by
      intro D acc2 w3 H2 hD e2 ha2
      have hl2 := congrArg List.length ha2
      simp only [List.length_append] at hl2
      walk_at "go"
      refine w_ixL (L2.Same.seq e2 hp) (atI_sgV hi rfl) ?_
      walk_at "go"
      rw [hD]
      exact ⟨_, _, _, rfl, e2, by rw [List.append_assoc]; exact ha2⟩
    walk_at "go"
    refine w_dec (fun hc => ?_) (fun hc => ?_)
    · rw [if_neg (by omega)] at ha hl
      have hi1 : i - 1 < ws.length := by omega
      have step : ∀ (D : Ends) (v : Tx) (H2 : Hp), v = (if i = 1 then [] else ws.getD (i - 2) []) → D.nx = (fun σ H' => ∃ acc w w2, σ = [some (.ref p), some (.str (mk acc)), w, w2] ∧ Same H H' ∧ acc ++ lnRest ws (i + 1) = lineTx ws) → Same H H2 →
          (tIfS (tB (tCall sp__law_gap [] E0 (tCons (tVar 3) (tCons (tOp (rIxL K) (tVar 0) (tOp rSubI (tVar 2) (tC (.int 1)))) (tCons (tOp (rIxL K) (tVar 0) (tVar 2)) tNil))))) (tAsg (tOp rAddS (tVar 1) (tC (.str (mk [32])))) (gName 1)) tNext)
            { D with nx := (tAsg (tOp rAddS (tVar 1) (tOp (rIxL K) (tVar 0) (tVar 2))) (gName 1)) D } [some (.ref p), some (.str (mk acc)), some (.int (i : Int)), some (.str (mk v))] H2 := by
        intro D v H2 hv hD e2
        subst hv
        walk_at "go"
        refine w_ixL (L2.Same.seq e2 hp) (atI_sgV hi1 (by omega)) ?_
        walk_at "go"
        refine w_ixL (L2.Same.seq e2 hp) (atI_sgV hi rfl) ?_
        walk_at "go"
        have hbl : (if i = 1 then ([] : Tx) else ws.getD (i - 2) []).length ≤ 1000 := by
          split
          · exact Nat.zero_le _
          · rw [getD_of (by omega)]
            have := hb _ (List.getElem_mem (show i - 2 < ws.length by omega))
            omega
        refine ⟨_, _, _, rfl, hbl, fun H3 e3 => ?_⟩
        rw [getD_of hi1] at ha hl
        refine w_blA (fun hg => ?_) (fun hg => ?_)
        · rw [if_pos hg] at ha hl
          simp only [List.length_cons, List.length_nil] at hl
          refine s_setl ?_
          refine w_op ?_
          refine w_var rfl ?_
          refine w_c ?_
          refine w_addS (by simp only [List.length_cons, List.length_nil]; omega) ?_
          exact fin D (acc ++ [32]) _ H3 hD (e2.trans e3) (by rw [← ha]; simp)
        · rw [if_neg (by rw [hg]; decide)] at ha
          exact fin D _ _ H3 hD (e2.trans e3) (by rw [← ha]; simp)
      walk_at "go"
      refine w_dec (fun hc2 => ?_) (fun hc2 => ?_)
      · walk_at "go"
        have hi2 : i - 2 < ws.length := by omega
        refine w_ixL (L2.Same.seq e hp) (atI_sgV hi2 (by omega)) ?_
        exact step _ _ H' (by rw [if_neg (by omega), getD_of hi2]) rfl e
      · refine w_c ?_
        exact step _ _ H' (by rw [if_pos (by omega)]) rfl e
    · have i0 : i = 0 := by omega
      rw [if_pos i0] at ha
      exact fin _ acc _ H' rfl e (by rw [← ha]; simp)
  · subst hσ
    rw [lnRest_end, List.append_nil] at ha
    subst ha
    walk_at "go"
    exact q H' e
theorem headD_drop {ws : List Tx} {j : Nat} (h : j < ws.length) : (ws.drop j).headD [] = ws[j] := by
  rw [List.drop_eq_getElem_cons h] <;> rfl
theorem w_follows {K : PySem.W.Frag} {σ : L2.St} {H : Hp} {Q : VK} {p : Addr} {ws : List Tx} {k : Nat} (h0 : σ[0]? = some (some (.ref p))) (h4 : σ[4]? = some (some (.int (k : Int)))) (hp : SqL K H p (sgV ws)) (q : Q (.str (mk ((ws.drop (k + 1)).headD []))) H) :
    (tIf (tTest (tOp rLtI (tOp rAddI (tVar 4) (tC (.int 1))) (tCB (cLen K) (tCons (tVar 0) tNil)))) (tOp (rIxL K) (tVar 0) (tOp rAddI (tVar 4) (tC (.int 1)))) (tC (.str (mk [])))) σ H Q := by
  refine w_if (w_test (w_op (w_op (w_var h4 (w_c (w_I0 ?_))))))
  refine w_callB (w_cons (w_var h0 (w_nil (w_lenL hp (w_I0 (w_bl2 ?_))))))
  rw [sgV_len]
  refine w_dec (fun hc => ?_) (fun hc => ?_)
  · have hl : k + 1 < ws.length := by omega
    rw [headD_drop hl] at q
    exact w_op (w_var h0 (w_op (w_var h4 (w_c (w_I0 (w_ixL hp (atI_sgV hl (by omega)) q))))))
  · rw [List.drop_eq_nil_of_le (by omega)] at q
    exact w_c q
theorem spaces_len (d : Nat) : (spaces d).length = 4 * d := by
  unfold spaces
  rw [List.length_flatten, List.map_replicate, List.sum_replicate_nat]
  show d * 4 = 4 * d
  omega
theorem pu__law_text {K : PySem.W.Frag} (vs : List V) (H : Hp) (Q : VK) (E : XK) (h : sp__law_text K vs H Q E) :
    t__law_text K (sp__law_line K) { nx := fun _ H' => Q .non H', rt := Q } (start n__law_text vs) H := by
  obtain ⟨p, ws, out, rfl, hp, hn, hb, hL, ho, q⟩ := h
  delta t__law_text
  walk_at "go"
  rename_i L0 H0 hL0 e0 hl0
  refine l_forR (n := ws.length) (fun Q q => by walk_at "go"; rw [sgV_len]; exact q) (by omega)
    (fun i σ H' => ∃ acc out' line d L w4 w5 w6 w7 w8, σ = [some (.ref p), some (.str (mk acc)), some (.int ((d : Nat) : Int)), some (.ref L), w4, w5, w6, w7, w8] ∧ H L = none ∧ Same H H' ∧ H' L = some (.lst (sgV line)) ∧ LT d line (ws.drop i) out' ∧ acc ++ out' = out ∧ d ≤ i ∧ line.length ≤ i ∧ ∀ w ∈ line, w.length ≤ 100)
    ⟨[], out, [], 0, L0, none, none, none, none, none, rfl, hL0, e0, hl0, hL, rfl, Nat.le_refl _, Nat.zero_le _, fun w hw => nomatch hw⟩
    (fun i σ' H' hi ⟨acc, out', line, d, L, w4, w5, w6, w7, w8, hσ, hL1, e1, hl1, hLT, ha, hd, hli, hlw⟩ => ?_) (fun σ' H' ⟨acc, out', line, d, L, w4, w5, w6, w7, w8, hσ, hL1, e1, hl1, hLT, ha, hd, hli, hlw⟩ => ?_)
  · subst hσ
    have hw0 := hb _ (List.getElem_mem hi)
    have hg : atI (sgV ws) (i : Int) = some (.str (mk ws[i])) := atI_sgV hi rfl
    rw [List.drop_eq_getElem_cons hi] at hLT
    have hls := congrArg List.length ha
    rw [List.length_append] at hls
    have hlw' : ∀ w ∈ line ++ [ws[i]], w.length ≤ 100 := fun w hw => by
      rcases List.mem_append.mp hw with z | z
      · exact hlw w z
      · rw [List.mem_singleton.mp z]
        exact hw0
    have hll : (line ++ [ws[i]]).length ≤ i + 1 := by
      rw [List.length_append]
      simp only [List.length_cons, List.length_nil]
      omega
    generalize hw : ws[i] = w0 at hLT hg hw0 hlw' hll
    generalize hr : ws.drop (i + 1) = r at hLT
    cases hLT with
    | word n1 n2 n3 hT =>
      walk_at "go"
      refine w_ixL (L2.Same.seq e1 hp) hg ?_
      walk_at "go"
      refine w_f (decide_eq_false n3) ?_
      walk_at "go"
      refine w_app2 e1 hL1 hl1 (by rw [sgV_len]; omega) fun H2 e2 f2 hl2 => ?_
      refine s_set (w_follows rfl rfl (L2.Same.seq e2 hp) ?_)
      walk_at "go"
      rename_i p3 H3 hp3 e3 hl3
      refine w_inC [sSc, sLb] (fun h => ?_) (fun h => ?_)
      · rw [List.contains_eq_mem, decide_eq_true_eq] at h
        simp only [List.mem_cons, List.not_mem_nil, or_false] at h
        rcases h with h | h
        · exact absurd h n1
        · exact absurd h n2
      walk_at "go"
      refine w_f (decide_eq_false n3) ?_
      walk_at "go"
      refine w_f (decide_eq_false n3) ?_
      walk_at "go"
      refine w_f (decide_eq_false n2) ?_
      exact ⟨acc, out', line ++ [w0], d, L, _, _, _, _, _, rfl, hL1, e2.trans e3, by rw [e3 _ _ hl2, sgV_app] <;> rfl, hT, ha, by omega, hll, hlw'⟩
    | semi hT =>
      rename_i out2
      simp only [List.length_append, List.length_cons, List.length_nil] at hls
      walk_at "go"
      refine w_ixL (L2.Same.seq e1 hp) hg ?_
      walk_at "go"
      refine w_app2 e1 hL1 hl1 (by rw [sgV_len]; omega) fun H2 e2 f2 hl2 => ?_
      refine s_set (w_follows rfl rfl (L2.Same.seq e2 hp) ?_)
      walk_at "go"
      rename_i p3 H3 hp3 e3 hl3
      have hl23 : H3 L = some (.lst (sgV (line ++ [sSc]))) := by rw [e3 _ _ hl2, sgV_app] <;> rfl
      have hs : ((List.replicate d [32, 32, 32, 32]).flatten : Tx).length = 4 * d := spaces_len d
      have hs2 := spaces_len d
      refine ⟨[32, 32, 32, 32], d, rfl, rfl, by omega, by decide, by decide, ?_⟩
      walk_at "go"
      refine ⟨L, line ++ [sSc], rfl, SqL.of hl23, by omega, hlw', fun H4 e4 => ?_⟩
      walk_at "go"
      rename_i L5 H5 hL5 e5 hl5
      have eH : Same H H5 := (e2.trans e3).trans (e4.trans e5)
      have zL : H L5 = none := by
        cases qq : H L5 with
        | none => rfl
        | some o =>
          rw [(e2.trans e3).trans e4 _ _ qq] at hL5
          cases hL5
      exact ⟨_, out2, [], d, L5, _, _, _, _, _, rfl, zL, eH, hl5, hT, by rw [← ha]; simp [spaces, four], by omega, Nat.zero_le _, fun w hw => nomatch hw⟩
    | lb hT =>
      rename_i out2
      simp only [List.length_append, List.length_cons, List.length_nil] at hls
      walk_at "go"
      refine w_ixL (L2.Same.seq e1 hp) hg ?_
      walk_at "go"
      refine w_app2 e1 hL1 hl1 (by rw [sgV_len]; omega) fun H2 e2 f2 hl2 => ?_
      refine s_set (w_follows rfl rfl (L2.Same.seq e2 hp) ?_)
      walk_at "go"
      rename_i p3 H3 hp3 e3 hl3
      have hl23 : H3 L = some (.lst (sgV (line ++ [sLb]))) := by rw [e3 _ _ hl2, sgV_app] <;> rfl
      have hs : ((List.replicate d [32, 32, 32, 32]).flatten : Tx).length = 4 * d := spaces_len d
      have hs2 := spaces_len d
      refine ⟨[32, 32, 32, 32], d, rfl, rfl, by omega, by decide, by decide, ?_⟩
      walk_at "go"
      refine ⟨L, line ++ [sLb], rfl, SqL.of hl23, by omega, hlw', fun H4 e4 => ?_⟩
      walk_at "go"
      rename_i L5 H5 hL5 e5 hl5
      have eH : Same H H5 := (e2.trans e3).trans (e4.trans e5)
      have zL : H L5 = none := by
        cases qq : H L5 with
        | none => rfl
        | some o =>
          rw [(e2.trans e3).trans e4 _ _ qq] at hL5
          cases hL5
      exact ⟨_, out2, [], d + 1, L5, _, _, _, _, _, rfl, zL, eH, hl5, hT, by rw [← ha]; simp [spaces, four], by omega, Nat.zero_le _, fun w hw => nomatch hw⟩
    | @rb d _ _ out2 hne hT =>
      simp only [List.length_append, List.length_cons, List.length_nil] at hls
      have ed : ((d + 1 : Nat) : Int) - 1 = (d : Int) := by omega
      walk_at "go"
      refine w_ixL (L2.Same.seq e1 hp) hg ?_
      walk_at "go"
      rw [ed]
      refine w_app2 e1 hL1 hl1 (by rw [sgV_len]; omega) fun H2 e2 f2 hl2 => ?_
      refine s_set (w_follows rfl rfl (L2.Same.seq e2 hp) ?_)
      rw [hr]
      walk_at "go"
      rename_i p3 H3 hp3 e3 hl3
      rw [decide_eq_false hne]
      walk_at "go"
      have hl23 : H3 L = some (.lst (sgV (line ++ [sRb]))) := by rw [e3 _ _ hl2, sgV_app] <;> rfl
      have hs : ((List.replicate d [32, 32, 32, 32]).flatten : Tx).length = 4 * d := spaces_len d
      have hs2 := spaces_len d
      refine ⟨[32, 32, 32, 32], d, rfl, rfl, by omega, by decide, by decide, ?_⟩
      walk_at "go"
      refine ⟨L, line ++ [sRb], rfl, SqL.of hl23, by omega, hlw', fun H4 e4 => ?_⟩
      walk_at "go"
      rename_i L5 H5 hL5 e5 hl5
      have eH : Same H H5 := (e2.trans e3).trans (e4.trans e5)
      have zL : H L5 = none := by
        cases qq : H L5 with
        | none => rfl
        | some o =>
          rw [(e2.trans e3).trans e4 _ _ qq] at hL5
          cases hL5
      exact ⟨_, out2, [], d, L5, _, _, _, _, _, rfl, zL, eH, hl5, hT, by rw [← ha]; simp [spaces, four], by omega, Nat.zero_le _, fun w hw => nomatch hw⟩
    | @rbe d _ r2 _ hT =>
      have ed : ((d + 1 : Nat) : Int) - 1 = (d : Int) := by omega
      walk_at "go"
      refine w_ixL (L2.Same.seq e1 hp) hg ?_
      walk_at "go"
      rw [ed]
      refine w_app2 e1 hL1 hl1 (by rw [sgV_len]; omega) fun H2 e2 f2 hl2 => ?_
      refine s_set (w_follows rfl rfl (L2.Same.seq e2 hp) ?_)
      rw [hr]
      walk_at "go"
      rename_i p2 H3' hp2 e3' hl2' p3 H3 hp3 e3 hl3
      have eH : Same H H3 := (e2.trans e3').trans e3
      have zL : H p3 = none := by
        cases qq : H p3 with
        | none => rfl
        | some o =>
          rw [e2.trans e3' _ _ qq] at hp3
          cases hp3
      exact ⟨acc, out', [sRb], d, p3, _, _, _, _, _, rfl, zL, eH, hl3, hT, ha, by omega, by simp, fun w hw => by rw [List.mem_singleton.mp hw]; decide⟩
  · subst hσ
    rw [List.drop_eq_nil_of_le (Nat.le_refl _)] at hLT
    cases hLT with
    | nil =>
      rw [List.append_nil] at ha
      subst ha
      walk_at "go"
      exact q H' e1
end Cc
namespace Cc
/-! ### the law's own comparison -/
def okS : Nat → PyData → Prop
  | _, .none => True
  | _, .int i => SeqAt.shaped (.int i) = true
  | _, .str x => SeqAt.shaped (.str x) = true
  | n + 1, .tuple ds => ds.length ≤ 1000 ∧ ∀ d ∈ ds, okS n d
  | _, _ => False
def sp__law_same (K : PySem.W.Frag) (n : Nat) : Sp := fun vs H Q _ => ∃ (v u : V) (d : PyData) (m : Nat), vs = [v, u] ∧ n = m + 1 ∧ okS m d ∧ plainD d = true ∧ Dp K H v d ∧ Dp K H u d ∧ RetV (.bl true) H Q
theorem w_isi {K : PySem.W.Frag} {H : Hp} {Q : VK} {x : V} {t s : String} {b : Bool} (ty : TyX K H x (.type t)) (h : kitB t s = some b) (q : Q (.bl b) H) : rIsi K [x, .ty s] H Q := ⟨x, .ty s, .type t, .type s, b, rfl, .ty s, ty, kit_ty h, q⟩
theorem tyX_tup {K : PySem.W.Frag} {H : Hp} {a : Addr} {xs : List V} (h : SqT K H a xs) : TyX K H (.ref a) (.type "tuple") := by
  rcases h with (h | ⟨o, h⟩) | ⟨o, its, n, h1, h2, _⟩
  · exact .base (.tup h)
  · exact .fTuple h
  · exact .kTuple h1 h2
theorem w_eqD {K : PySem.W.Frag} {H : Hp} {Q : VK} {x y : V} {d : PyData} (h1 : Dp K H x d) (h2 : Dp K H y d) (h3 : SeqAt.shaped d = true) (q : Q (.bl true) H) : rEqD K x y H Q :=
  ⟨d, d, h1, h2, h3, h3, by rw [SeqAt.eqv_refl d (SeqAt.canLay_of_shaped h3)]; exact q⟩
theorem w_neI0 {H : Hp} {Q : VK} {a : Int} (q : Q (.bl false) H) : rNe (.int a) (.int a) H Q := by
  refine ⟨rfl, ?_⟩
  rw [decide_eq_true rfl]
  exact q
theorem okS_str {m : Nat} {x : Str} (h : okS m (.str x)) : SeqAt.shaped (.str x) = true := by cases m <;> exact h
theorem okS_int {m : Nat} {i : Int} (h : okS m (.int i)) : SeqAt.shaped (.int i) = true := by cases m <;> exact h
theorem dpall_at {K : PySem.W.Frag} {H : Hp} : ∀ {vs : List V} {ds : List PyData} {i : Nat} {v : V}, DpAll K H vs ds → vs[i]? = some v → ∃ d, ds[i]? = some d ∧ Dp K H v d
  | _, _, 0, _, .cons h _, e => ⟨_, rfl, by cases e; exact h⟩
  | _, _, i + 1, _, .cons _ r, e => dpall_at (i := i) r e
theorem plain_at {ds : List PyData} (h : plainD.plainDs ds = true) : ∀ d ∈ ds, plainD d = true := by
  induction ds with
  | nil => intro d hd; cases hd
  | cons x r ih =>
    obtain ⟨h1, h2⟩ := Bool.and_eq_true_iff.mp (show (plainD x && plainD.plainDs r) = true from h)
    intro d hd
    rcases List.mem_cons.mp hd with rfl | z
    · exact h1
    · exact ih h2 d z
theorem pu__law_same {K : PySem.W.Frag} {n : Nat} (vs : List V) (H : Hp) (Q : VK) (E : XK) (h : sp__law_same K (n + 1) vs H Q E) :
    t__law_same K (sp__law_same K n) { nx := fun _ H' => Q .non H', rt := Q } (start n__law_same vs) H := by
  obtain ⟨v, u, d, m, rfl, hm, hok, hpl, h1, h2, q⟩ := h
  delta t__law_same
  cases h1 with
  | non =>
    cases h2
    walk_at "go"
    exact q H (Same.refl H)
  | bl b => cases m <;> exact hok.elim
  | lst _ _ => cases hpl
  | int i =>
    cases h2
    have sh := okS_int hok
    walk_at "go"
    refine w_isi (.base (.int i)) (b := false) (by decide +kernel) ?_
    walk_at "go"
    refine w_isi (.base (.int i)) (b := false) (by decide +kernel) ?_
    walk_at "go"
    refine w_isi (.base (.int i)) (b := true) (by decide +kernel) ?_
    walk_at "go"
    refine w_isi (.base (.int i)) (b := true) (by decide +kernel) ?_
    walk_at "go"
    refine w_isi (.base (.int i)) (b := false) (by decide +kernel) ?_
    walk_at "go"
    refine w_eqD (.int i) (.int i) sh ?_
    exact q H (Same.refl H)
  | str x =>
    cases h2
    have sh := okS_str hok
    walk_at "go"
    refine w_isi (.base (.str x)) (b := false) (by decide +kernel) ?_
    walk_at "go"
    refine w_isi (.base (.str x)) (b := false) (by decide +kernel) ?_
    walk_at "go"
    refine w_isi (.base (.str x)) (b := false) (by decide +kernel) ?_
    walk_at "go"
    refine w_isi (.base (.str x)) (b := true) (by decide +kernel) ?_
    walk_at "go"
    refine w_eqD (.str x) (.str x) sh ?_
    exact q H (Same.refl H)
  | @tup a xs ds s1 a1 =>
    cases h2 with
    | @tup b ys _ s2 a2 =>
    cases m with
    | zero => exact hok.elim
    | succ m =>
    obtain ⟨hl, hk⟩ := hok
    have pl := plain_at (show plainD.plainDs ds = true from hpl)
    have l1 := dpall_len a1
    have l2 := dpall_len a2
    walk_at "go"
    refine w_isi (tyX_tup s2) (b := true) (by decide +kernel) ?_
    walk_at "go"
    refine w_isi (tyX_tup s1) (b := true) (by decide +kernel) ?_
    walk_at "go"
    rw [l1, l2]
    refine w_neI0 ?_
    walk_at "go"
    refine l_forR (n := ds.length) (fun Q q => by walk_at "go"; rw [l2]; exact q) (by omega) (fun i σ H' => ∃ w, σ = [some (.ref a), some (.ref b), w] ∧ Same H H') ⟨none, rfl, Same.refl H⟩
      (fun i σ' H' hi ⟨w, hσ, e⟩ => ?_) (fun σ' H' ⟨w, hσ, e⟩ => ?_)
    · subst hσ
      have g1 : xs[i]? = some xs[i] := List.getElem?_eq_getElem (by omega)
      have g2 : ys[i]? = some ys[i] := List.getElem?_eq_getElem (by omega)
      obtain ⟨d, hd, b1⟩ := dpall_at a1 g1
      obtain ⟨d', hd', b2⟩ := dpall_at a2 g2
      have ed : d' = d := Option.some.inj (hd'.symm.trans hd)
      subst ed
      have hmem : d' ∈ ds := List.mem_of_getElem? hd
      walk_at "go"
      refine w_ixT (same_sqt e s1) (atI_nat g1) ?_
      walk_at "go"
      refine w_ixT (same_sqt e s2) (atI_nat g2) ?_
      walk_at "go"
      refine ⟨xs[i], ys[i], d', m, rfl, by omega, hk _ hmem, pl _ hmem, dp_same e (pl _ hmem) b1, dp_same e (pl _ hmem) b2, fun H2 e2 => ?_⟩
      walk_at "go"
      exact ⟨_, rfl, e.trans e2⟩
    · subst hσ
      walk_at "go"
      exact q H' e
end Cc
end
section
open PySem PySem.Spec PyProof.Rows L2
/-! ### small hands: what stands, sizes, one step of a reading -/
open Cc L2 in
local macro_rules | `(tactic| walk_at "sm") => `(tactic| first | exact L2.Same.refl _ | assumption | (refine' L2.Same.trans ?l ?r; (case r => assumption); (case l => walk_at "sm")))
open Cc L2 in
local macro_rules | `(tactic| walk_at "tup") => `(tactic| first | assumption | exact SqT.of (by assumption) | (refine' same_sqt ?e ?h; (case h => first | assumption | exact SqT.of (by assumption)); (case e => walk_at "sm")))
open Cc L2 in
local macro_rules | `(tactic| walk_at "lst") => `(tactic| first | assumption | exact SqL.of (by assumption) | (refine' L2.Same.seq ?e ?h; (case h => first | assumption | exact SqL.of (by assumption)); (case e => walk_at "sm")))
open Cc L2 in
local macro_rules | `(tactic| walk_at "at") => `(tactic| first | assumption | exact upd_same | (refine' same_at ?e ?h; (case h => assumption); (case e => walk_at "sm")))
open Cc L2 in
local macro_rules | `(tactic| walk_at "fr") => `(tactic| first | assumption | (refine' L2.Same.free ?e ?h; (case h => assumption); (case e => walk_at "sm")))
open Cc L2 in
local macro_rules | `(tactic| walk_at "ext") => `(tactic| ((with_reducible refine' w_ext ?e ?f ?h ?g ?n ?_); (case e => walk_at "sm"); (case f => walk_at "fr"); (case h => walk_at "at"); (case g => walk_at "at"); (case n => walk_at "sz"); intro H' e' h'))
open Cc L2 in
local macro_rules | `(tactic| walk_at "app") => `(tactic| ((with_reducible refine' w_app ?e ?f ?h ?n ?_); (case e => walk_at "sm"); (case f => walk_at "fr"); (case h => walk_at "at"); (case n => walk_at "sz"); intro H' e' h'))
open Cc L2 in
local macro_rules | `(tactic| walk_at "plain") => `(tactic| first | exact ex_plain _ | exact co_plain _ | exact sm_plain _ | exact sms_plain _ | exact pr_plain _ | exact pg_plain _ | rfl | assumption)
open Cc L2 in
local macro_rules | `(tactic| walk_at "dp") => `(tactic| first | assumption | exact Dp.str _ | exact Dp.int _ | exact Dp.non | (refine' dp_same ?e ?p ?h; (case h => assumption); (case e => walk_at "sm"); (case p => walk_at "plain")))
open Cc L2 in
local macro_rules | `(tactic| walk_at "sz") => `(tactic| first | omega | (simp only [List.length_append, List.length_cons, List.length_nil, sgV_len, List.length_replicate, List.length_map]; omega))
open Cc L2 in
local macro_rules | `(tactic| walk_at "szi") => `(tactic| (simp only [four, List.length_append, List.length_cons, List.length_nil]; omega))
open Cc L2 in
local macro_rules | `(tactic| walk_at "go1") => `(tactic| first
  | ((with_reducible refine' w_var ?h ?_); (case h => exact rfl))
  | with_reducible refine' w_c ?_
  | with_reducible refine' w_op ?_
  | with_reducible refine' w_cons ?_
  | with_reducible refine' w_nil ?_
  | ((with_reducible refine' w_ixT ?h ?e ?_); (case h => walk_at "tup"); (case e => first | exact rfl | exact atI_zero))
  | with_reducible refine' w_eqS ?_
  | ((with_reducible refine' w_addS ?h ?_); (case h => walk_at "sz"))
  | with_reducible refine' w_test ?_
  | with_reducible refine' w_B ?_
  | with_reducible refine' w_bl ?_
  | with_reducible refine' w_bl2 ?_
  | with_reducible refine' s_set ?_
  | with_reducible refine' s_when ?_
  | with_reducible refine' s_whenl ?_
  | with_reducible refine' s_if ?_
  | with_reducible refine' s_ifl ?_
  | with_reducible refine' s_ret ?_
  | with_reducible refine' s_drop ?_
  | with_reducible refine' s_dropl ?_
  | with_reducible refine' s_setl ?_
  | with_reducible refine' w_t (by decide) ?_
  | with_reducible refine' w_f (by decide) ?_
  | with_reducible refine' w_t (by with_unfolding_all exact rfl) ?_
  | with_reducible refine' w_f (by with_unfolding_all exact rfl) ?_
  | with_reducible refine' w_I0 ?_
  | with_reducible refine' w_eqI ?_
  | with_reducible refine' w_neS ?_
  | with_reducible refine' w_call ?_
  | with_reducible refine' w_callB ?_
  | with_reducible refine' w_not ?_
  | with_reducible refine' w_and ?_
  | with_reducible refine' w_or ?_
  | with_reducible refine' w_andV ?_
  | with_reducible refine' w_orV ?_
  | with_reducible refine' w_notV ?_
  | with_reducible refine' w_if ?_
  | with_reducible refine' w_m1 ?_
  | with_reducible refine' w_m1' ?_
  | with_reducible refine' w_tup ?_
  | with_reducible refine' w_lst ?_
  | ((with_reducible refine' w_newT ?n ?_); (case n => exact Nat.le_of_ble_eq_true rfl); intro p H' hp hs ht)
  | ((with_reducible refine' w_newL ?n ?_); (case n => exact Nat.le_of_ble_eq_true rfl); intro p H' hp hs ht)
  | ((with_reducible refine' w_in (Or.inr ?h) ?x ?s ?_); (case h => walk_at "tup"); (case x => exact rfl); (case s => exact rfl))
  | ((with_reducible refine' w_in (Or.inl ?h) ?x ?s ?_); (case h => walk_at "lst"); (case x => exact rfl); (case s => exact rfl))
  | with_reducible refine' w_isNone ?_
  | with_reducible refine' w_un ?_
  | with_reducible refine' w_neg ?_
  | with_reducible refine' w_inSign ?_
  | ((with_reducible refine' w_lenS ?h ?_); (case h => walk_at "sz"))
  | ((with_reducible refine' w_lenT ?h ?_); (case h => walk_at "tup"))
  | ((with_reducible refine' w_lenL ?h ?_); (case h => walk_at "lst"))
  | with_reducible refine' w_int1 ?_
  | with_reducible refine' w_abs ?_
  | ((with_reducible refine' w_strI ?h ?_); (case h => walk_at "sz"))
  | with_reducible refine' s_asg ?_
  | with_reducible refine' s_asgl ?_
  | with_reducible refine' w_bm ?_
  | ((with_reducible refine' w_tyL ?h ?_); (case h => walk_at "lst"))
  | ((with_reducible refine' w_cat ?h ?g ?n ?_); (case h => walk_at "at"); (case g => walk_at "at"); (case n => walk_at "sz"); intro p H' hp hs ht)
  | with_reducible refine' w_meth ?_)
open Cc L2 in
local macro_rules | `(tactic| walk_at "go") => `(tactic| (walk_at "go1"; repeat walk_at "go1"))
open Cc L2 in
local macro_rules | `(tactic| walk_at "gog1") => `(tactic| first
  | ((with_reducible refine' w_var ?h ?_); (case h => exact rfl))
  | with_reducible refine' w_c ?_
  | with_reducible refine' w_op ?_
  | with_reducible refine' w_cons ?_
  | with_reducible refine' w_nil ?_
  | ((with_reducible refine' w_ixT ?h ?e ?_); (case h => walk_at "tup"); (case e => first | exact rfl | exact atI_zero))
  | ((with_reducible refine' w_ixL ?h ?e ?_); (case h => walk_at "lst"); (case e => first | exact rfl | exact atI_zero))
  | with_reducible refine' w_eqS ?_
  | ((with_reducible refine' w_addS ?h ?_); (case h => walk_at "sz"))
  | with_reducible refine' w_test ?_
  | with_reducible refine' w_B ?_
  | with_reducible refine' w_bl ?_
  | with_reducible refine' w_bl2 ?_
  | with_reducible refine' s_set ?_
  | with_reducible refine' s_when ?_
  | with_reducible refine' s_whenl ?_
  | with_reducible refine' s_if ?_
  | with_reducible refine' s_ifl ?_
  | with_reducible refine' s_ret ?_
  | with_reducible refine' s_drop ?_
  | with_reducible refine' s_dropl ?_
  | with_reducible refine' s_setl ?_
  | with_reducible refine' w_t (by decide) ?_
  | with_reducible refine' w_f (by decide) ?_
  | with_reducible refine' w_t (by with_unfolding_all exact rfl) ?_
  | with_reducible refine' w_f (by with_unfolding_all exact rfl) ?_
  | with_reducible refine' w_I0 ?_
  | with_reducible refine' w_eqI ?_
  | with_reducible refine' w_neS ?_
  | with_reducible refine' w_call ?_
  | with_reducible refine' w_callB ?_
  | with_reducible refine' w_not ?_
  | with_reducible refine' w_and ?_
  | with_reducible refine' w_or ?_
  | with_reducible refine' w_andV ?_
  | with_reducible refine' w_orV ?_
  | with_reducible refine' w_notV ?_
  | with_reducible refine' w_if ?_
  | with_reducible refine' w_m1 ?_
  | with_reducible refine' w_m1' ?_
  | with_reducible refine' w_tup ?_
  | with_reducible refine' w_lst ?_
  | ((with_reducible refine' w_newT ?n ?_); (case n => exact Nat.le_of_ble_eq_true rfl); intro p H' hp hs ht)
  | ((with_reducible refine' w_newL ?n ?_); (case n => exact Nat.le_of_ble_eq_true rfl); intro p H' hp hs ht)
  | ((with_reducible refine' w_in (Or.inr ?h) ?x ?s ?_); (case h => walk_at "tup"); (case x => exact rfl); (case s => exact rfl))
  | ((with_reducible refine' w_in (Or.inl ?h) ?x ?s ?_); (case h => walk_at "lst"); (case x => exact rfl); (case s => exact rfl))
  | with_reducible refine' w_isNone ?_
  | with_reducible refine' w_un ?_
  | with_reducible refine' w_neg ?_
  | with_reducible refine' w_inSign ?_
  | ((with_reducible refine' w_lenS ?h ?_); (case h => walk_at "sz"))
  | ((with_reducible refine' w_lenT ?h ?_); (case h => walk_at "tup"))
  | ((with_reducible refine' w_lenL ?h ?_); (case h => walk_at "lst"))
  | with_reducible refine' w_int1 ?_
  | with_reducible refine' w_abs ?_
  | ((with_reducible refine' w_strI ?h ?_); (case h => walk_at "sz"))
  | with_reducible refine' s_asg ?_
  | with_reducible refine' s_asgl ?_
  | with_reducible refine' w_bm ?_
  | ((with_reducible refine' w_tyL ?h ?_); (case h => walk_at "lst"))
  | ((with_reducible refine' w_cat ?h ?g ?n ?_); (case h => walk_at "at"); (case g => walk_at "at"); (case n => walk_at "sz"); intro p H' hp hs ht)
  | with_reducible refine' w_meth ?_)
open Cc L2 in
local macro_rules | `(tactic| walk_at "gog") => `(tactic| (walk_at "gog1"; repeat walk_at "gog1"))
open Cc L2 in
local macro_rules | `(tactic| walk_at "fx") => `(tactic| first | exact Fx.refl _ | assumption | exact same_fx (by assumption) | (refine' Fx.trans ?l ?r; (case r => first | assumption | exact same_fx (by assumption)); (case l => walk_at "fx")))
open Cc L2 in
local macro_rules | `(tactic| walk_at "dpg") => `(tactic| first | assumption | exact Dp.str _ | exact Dp.int _ | exact Dp.non | (refine' dp_fx ?e ?n ?p ?h; (case h => assumption); (case n => exact Gs.noTup (by assumption)); (case e => walk_at "fx"); (case p => walk_at "plain")))
open Cc L2 in
local macro_rules | `(tactic| walk_at "gs") => `(tactic| first | assumption | exact Gs.same (by assumption) (by assumption))
namespace Cc
/-! ### the law's own drawing of numbers -/
def Stt (H : Hp) (l : Addr) : Prop := ∃ i0 i1 i2 i3 : Int, H l = some (.lst [.int i0, .int i1, .int i2, .int i3]) ∧ 0 ≤ i0 ∧ 0 ≤ i2 ∧ i2 < 2147483647
def Scr (K : PySem.W.Frag) (H : Hp) (l a : Addr) (ns : List Int) : Prop := ∀ H', Fx l H H' → SqL K H' a (ns.map V.int)
def Gs (K : PySem.W.Frag) (H : Hp) (l a : Addr) : Prop := Stt H l ∧ ∃ ns, Scr K H l a ns
theorem Scr.fx {K : PySem.W.Frag} {H H' : Hp} {l a : Addr} {ns : List Int} (h : Scr K H l a ns) (e : Fx l H H') : Scr K H' l a ns := fun H2 e2 => h H2 (e.trans e2)
theorem Scr.at_ {K : PySem.W.Frag} {H : Hp} {l a : Addr} {ns : List Int} (h : Scr K H l a ns) : SqL K H a (ns.map V.int) := h H (Fx.refl H)
theorem Stt.noTup {H : Hp} {l : Addr} (h : Stt H l) : NoTup H l := by
  obtain ⟨i0, i1, i2, i3, h, _⟩ := h
  exact noTup_lst h
theorem Gs.noTup {K : PySem.W.Frag} {H : Hp} {l a : Addr} (h : Gs K H l a) : NoTup H l := h.1.noTup
theorem Gs.same {K : PySem.W.Frag} {H H' : Hp} {l a : Addr} (h : Gs K H l a) (e : Same H H') : Gs K H' l a := by
  obtain ⟨⟨i0, i1, i2, i3, h1, h2⟩, ns, h3⟩ := h
  exact ⟨⟨i0, i1, i2, i3, e _ _ h1, h2⟩, ns, h3.fx (same_fx e)⟩
theorem Gs.ne {K : PySem.W.Frag} {H : Hp} {l a p : Addr} (h : Gs K H l a) (e : H p = none) : p ≠ l := by
  obtain ⟨⟨i0, i1, i2, i3, h1, h2⟩, _⟩ := h
  intro z
  subst z
  rw [h1] at e
  cases e
theorem w_setF {H : Hp} {p : Addr} {xs : List V} {v : V} {k : Nat} {Q : Hp → Prop} (h : H p = some (.lst xs)) (n : k < xs.length) (q : ∀ H', Fx p H H' → H' p = some (.lst (xs.set k v)) → Q H') : rSetL (.ref p) (.int (k : Int)) v H Q :=
  w_setL h n (q _ fx_upd upd_same)
def RetG (K : PySem.W.Frag) (l a : Addr) (H : Hp) (Q : VK) (P : V → Hp → Prop) : Prop := ∀ v H', Fx l H H' → Gs K H' l a → P v H' → Q v H'
def sp__law_next (K : PySem.W.Frag) : Sp := fun vs H Q _ => ∃ (l a : Addr) (many : Int), vs = [.ref l, .ref a, .int many] ∧ 1 ≤ many ∧ many ≤ 100000 ∧ Gs K H l a ∧ RetG K l a H Q fun v _ => ∃ r : Nat, v = .int (r : Int) ∧ (r : Int) < many
theorem rem_ok {a b : Int} (h : 0 < b) : ∃ r : Nat, V.int (a.fmod b) = .int (r : Int) ∧ (r : Int) < b := by
  have h1 := Int.fmod_nonneg_of_pos a h
  have h2 := Int.fmod_lt_of_pos a h
  exact ⟨(a.fmod b).toNat, by rw [Int.toNat_of_nonneg h1], by rw [Int.toNat_of_nonneg h1]; exact h2⟩
theorem w_gSub {σ : L2.St} {H : Hp} {v : V} {to ti : TE} {t : TSet} {Q : L2.St → Hp → Prop} (h : to σ H fun o H1 => ti σ H1 fun i H2 => t o i v H2 fun H3 => Q σ H3) : gSub to ti t v σ H Q := h
theorem pu__law_next {K : PySem.W.Frag} (vs : List V) (H : Hp) (Q : VK) (E : XK) (h : sp__law_next K vs H Q E) :
    t__law_next K { nx := fun _ H' => Q .non H', rt := Q } (start n__law_next vs) H := by
  obtain ⟨l, a, many, rfl, h1, h2, ⟨⟨i0, i1, i2, i3, hl, g0, g2, g3⟩, ns, hs⟩, q⟩ := h
  have c0 : many ≠ 0 := by omega
  have c1 : CDivN i1 many := ⟨c0, by omega⟩
  delta t__law_next
  have fin : ∀ (D : Ends) (c : Int), D.rt = Q →
      (tSeq (tAsg (tOp rAddI (tOp (rIxL K) (tVar 0) (tC (.int 0))) (tC (.int 1))) (gSub (tVar 0) (tC (.int 0)) rSetL))
        (tSeq (tIfS (tTest (tOp rGeI (tVar 4) (tOp rPowI (tC (.int 10)) (tC (.int 18))))) (tSeq (tAsg (tOp rDivI (tVar 4) (tVar 2)) (gSub (tVar 0) (tC (.int 1)) rSetL))
          (tRet (tOp rModI (tCB cInt1 (tCons (tVar 4) tNil)) (tVar 2)))) tNext)
        (tSeq (tAsg (tOp rModI (tCB cInt1 (tCons (tOp rAddI (tOp rAddI (tOp rMulI (tOp (rIxL K) (tVar 0) (tC (.int 2))) (tC (.int 48271))) (tOp rMulI (tVar 4) (tC (.int 69621)))) (tC (.int 12345))) tNil)) (tC (.int 2147483647))) (gSub (tVar 0) (tC (.int 2)) rSetL))
          (tRet (tOp rModI (tCB cInt1 (tCons (tOp rAddI (tOp rDivI (tOp (rIxL K) (tVar 0) (tC (.int 2))) (tC (.int 7))) (tOp rDivI (tOp rMulI (tOp (rIxL K) (tVar 0) (tC (.int 2))) (tOp (rIxL K) (tVar 0) (tC (.int 2)))) (tC (.int 65537)))) tNil)) (tVar 2))))))
        D [some (.ref l), some (.ref a), some (.int many), none, some (.int c)] H := by
    intro D c hD
    walk_at "gog"
    refine w_gSub ?_
    walk_at "gog"
    refine w_setF (k := 0) hl (by simp) fun H1 f1 hl1 => ?_
    have hl1' : H1 l = some (.lst [.int (i0 + 1), .int i1, .int i2, .int i3]) := hl1
    clear hl1
    walk_at "gog"
    refine w_I (C := CPow) ⟨by decide, by decide, by decide⟩ ?_
    walk_at "gog"
    refine w_dec (fun hc => ?_) (fun hc => ?_)
    · walk_at "gog"
      refine w_I (C := CDivN) ⟨c0, by omega⟩ ?_
      refine w_gSub ?_
      walk_at "gog"
      refine w_setF (k := 1) hl1' (by simp) fun H2 f2 hl2 => ?_
      walk_at "gog"
      refine w_I c0 ?_
      rw [hD]
      exact q _ H2 (f1.trans f2) ⟨⟨i0 + 1, c.fdiv many, i2, i3, hl2, by omega, g2, g3⟩, ns, (hs.fx f1).fx f2⟩ (rem_ok (by omega))
    · walk_at "gog"
      refine w_I (C := CMul) (Or.inr (by decide)) ?_
      walk_at "gog"
      refine w_I (C := CMul) (Or.inr (by decide)) ?_
      walk_at "gog"
      refine w_I (by decide) ?_
      refine w_gSub ?_
      walk_at "gog"
      refine w_setF (k := 2) hl1' (by simp) fun H2 f2 hl2 => ?_
      have u1 := Int.fmod_nonneg_of_pos (i2 * 48271 + c * 69621 + 12345) (show (0 : Int) < 2147483647 by decide)
      have u2 := Int.fmod_lt_of_pos (i2 * 48271 + c * 69621 + 12345) (show (0 : Int) < 2147483647 by decide)
      have hl2' : H2 l = some (.lst [.int (i0 + 1), .int i1, .int ((i2 * 48271 + c * 69621 + 12345).fmod 2147483647), .int i3]) := hl2
      clear hl2
      generalize (i2 * 48271 + c * 69621 + 12345).fmod 2147483647 = z at u1 u2 hl2'
      walk_at "gog"
      refine w_I (C := CDivN) ⟨by decide, by decide⟩ ?_
      walk_at "gog"
      refine w_I (C := CMul) (Or.inr ⟨by omega, by omega⟩) ?_
      walk_at "gog"
      refine w_I (C := CDivN) ⟨by decide, by decide⟩ ?_
      walk_at "gog"
      refine w_I c0 ?_
      rw [hD]
      exact q _ H2 (f1.trans f2) ⟨⟨i0 + 1, i1, z, i3, hl2', by omega, u1, u2⟩, ns, (hs.fx f1).fx f2⟩ (rem_ok (by omega))
  walk_at "gog"
  refine w_dec (fun hc => ?_) (fun hc => ?_)
  · walk_at "gog"
    refine w_I c0 ?_
    walk_at "gog"
    refine w_I c1 ?_
    refine w_gSub ?_
    walk_at "gog"
    refine w_setF (k := 1) hl (by simp) fun H2 f2 hl2 => ?_
    walk_at "gog"
    exact q _ H2 f2 ⟨⟨i0, i1.fdiv many, i2, i3, hl2, g0, g2, g3⟩, ns, hs.fx f2⟩ (rem_ok (by omega))
  · refine s_set ?_
    refine w_c ?_
    refine s_when ?_
    refine w_test ?_
    refine w_op ?_
    refine w_op ?_
    refine w_var rfl ?_
    refine w_c ?_
    refine w_ixL (SqL.of hl) atI_zero ?_
    refine w_callB ?_
    refine w_cons ?_
    refine w_var rfl ?_
    refine w_nil ?_
    refine w_lenL hs.at_ ?_
    refine w_I0 ?_
    refine w_bl2 ?_
    rw [List.length_map]
    refine w_dec (fun hc2 => ?_) (fun hc2 => ?_)
    · obtain ⟨j, hj⟩ : ∃ j : Nat, i0 = (j : Int) := ⟨i0.toNat, by omega⟩
      have hi : j < ns.length := by omega
      have hg : atI (ns.map V.int) i0 = some (.int ns[j]) := by
        rw [hj]
        refine atI_nat ?_
        rw [List.getElem?_map, List.getElem?_eq_getElem hi]
        rfl
      refine s_setl ?_
      refine w_callB ?_
      refine w_cons ?_
      refine w_callB ?_
      refine w_cons ?_
      refine w_op ?_
      refine w_var rfl ?_
      refine w_op ?_
      refine w_var rfl ?_
      refine w_c ?_
      refine w_ixL (SqL.of hl) atI_zero ?_
      refine w_ixL hs.at_ hg ?_
      refine w_nil ?_
      refine w_int1 ?_
      refine w_nil ?_
      refine w_abs ?_
      exact fin _ _ rfl
    · exact fin _ _ rfl
end Cc
end
section
open PySem PySem.Spec PyProof.Rows L2
/-! ### small hands: what stands, sizes, one step of a reading -/
open Cc L2 in
local macro_rules | `(tactic| walk_at "sm") => `(tactic| first | exact L2.Same.refl _ | assumption | (refine' L2.Same.trans ?l ?r; (case r => assumption); (case l => walk_at "sm")))
open Cc L2 in
local macro_rules | `(tactic| walk_at "tup") => `(tactic| first | assumption | exact SqT.of (by assumption) | (refine' same_sqt ?e ?h; (case h => first | assumption | exact SqT.of (by assumption)); (case e => walk_at "sm")))
open Cc L2 in
local macro_rules | `(tactic| walk_at "lst") => `(tactic| first | assumption | exact SqL.of (by assumption) | (refine' L2.Same.seq ?e ?h; (case h => first | assumption | exact SqL.of (by assumption)); (case e => walk_at "sm")))
open Cc L2 in
local macro_rules | `(tactic| walk_at "at") => `(tactic| first | assumption | exact upd_same | (refine' same_at ?e ?h; (case h => assumption); (case e => walk_at "sm")))
open Cc L2 in
local macro_rules | `(tactic| walk_at "fr") => `(tactic| first | assumption | (refine' L2.Same.free ?e ?h; (case h => assumption); (case e => walk_at "sm")))
open Cc L2 in
local macro_rules | `(tactic| walk_at "ext") => `(tactic| ((with_reducible refine' w_ext ?e ?f ?h ?g ?n ?_); (case e => walk_at "sm"); (case f => walk_at "fr"); (case h => walk_at "at"); (case g => walk_at "at"); (case n => walk_at "sz"); intro H' e' h'))
open Cc L2 in
local macro_rules | `(tactic| walk_at "app") => `(tactic| ((with_reducible refine' w_app ?e ?f ?h ?n ?_); (case e => walk_at "sm"); (case f => walk_at "fr"); (case h => walk_at "at"); (case n => walk_at "sz"); intro H' e' h'))
open Cc L2 in
local macro_rules | `(tactic| walk_at "plain") => `(tactic| first | exact ex_plain _ | exact co_plain _ | exact sm_plain _ | exact sms_plain _ | exact pr_plain _ | exact pg_plain _ | rfl | assumption)
open Cc L2 in
local macro_rules | `(tactic| walk_at "dp") => `(tactic| first | assumption | exact Dp.str _ | exact Dp.int _ | exact Dp.non | (refine' dp_same ?e ?p ?h; (case h => assumption); (case e => walk_at "sm"); (case p => walk_at "plain")))
open Cc L2 in
local macro_rules | `(tactic| walk_at "sz") => `(tactic| first | omega | (simp only [List.length_append, List.length_cons, List.length_nil, sgV_len, List.length_replicate, List.length_map]; omega))
open Cc L2 in
local macro_rules | `(tactic| walk_at "szi") => `(tactic| (simp only [four, List.length_append, List.length_cons, List.length_nil]; omega))
open Cc L2 in
local macro_rules | `(tactic| walk_at "go1") => `(tactic| first
  | ((with_reducible refine' w_var ?h ?_); (case h => exact rfl))
  | with_reducible refine' w_c ?_
  | with_reducible refine' w_op ?_
  | with_reducible refine' w_cons ?_
  | with_reducible refine' w_nil ?_
  | ((with_reducible refine' w_ixT ?h ?e ?_); (case h => walk_at "tup"); (case e => first | exact rfl | exact atI_zero))
  | with_reducible refine' w_eqS ?_
  | ((with_reducible refine' w_addS ?h ?_); (case h => walk_at "sz"))
  | with_reducible refine' w_test ?_
  | with_reducible refine' w_B ?_
  | with_reducible refine' w_bl ?_
  | with_reducible refine' w_bl2 ?_
  | with_reducible refine' s_set ?_
  | with_reducible refine' s_when ?_
  | with_reducible refine' s_whenl ?_
  | with_reducible refine' s_if ?_
  | with_reducible refine' s_ifl ?_
  | with_reducible refine' s_ret ?_
  | with_reducible refine' s_drop ?_
  | with_reducible refine' s_dropl ?_
  | with_reducible refine' s_setl ?_
  | with_reducible refine' w_t (by decide) ?_
  | with_reducible refine' w_f (by decide) ?_
  | with_reducible refine' w_t (by with_unfolding_all exact rfl) ?_
  | with_reducible refine' w_f (by with_unfolding_all exact rfl) ?_
  | with_reducible refine' w_I0 ?_
  | with_reducible refine' w_eqI ?_
  | with_reducible refine' w_neS ?_
  | with_reducible refine' w_call ?_
  | with_reducible refine' w_callB ?_
  | with_reducible refine' w_not ?_
  | with_reducible refine' w_and ?_
  | with_reducible refine' w_or ?_
  | with_reducible refine' w_andV ?_
  | with_reducible refine' w_orV ?_
  | with_reducible refine' w_notV ?_
  | with_reducible refine' w_if ?_
  | with_reducible refine' w_m1 ?_
  | with_reducible refine' w_m1' ?_
  | with_reducible refine' w_tup ?_
  | with_reducible refine' w_lst ?_
  | ((with_reducible refine' w_newT ?n ?_); (case n => exact Nat.le_of_ble_eq_true rfl); intro p H' hp hs ht)
  | ((with_reducible refine' w_newL ?n ?_); (case n => exact Nat.le_of_ble_eq_true rfl); intro p H' hp hs ht)
  | ((with_reducible refine' w_in (Or.inr ?h) ?x ?s ?_); (case h => walk_at "tup"); (case x => exact rfl); (case s => exact rfl))
  | ((with_reducible refine' w_in (Or.inl ?h) ?x ?s ?_); (case h => walk_at "lst"); (case x => exact rfl); (case s => exact rfl))
  | with_reducible refine' w_isNone ?_
  | with_reducible refine' w_un ?_
  | with_reducible refine' w_neg ?_
  | with_reducible refine' w_inSign ?_
  | ((with_reducible refine' w_lenS ?h ?_); (case h => walk_at "sz"))
  | ((with_reducible refine' w_lenT ?h ?_); (case h => walk_at "tup"))
  | ((with_reducible refine' w_lenL ?h ?_); (case h => walk_at "lst"))
  | with_reducible refine' w_int1 ?_
  | with_reducible refine' w_abs ?_
  | ((with_reducible refine' w_strI ?h ?_); (case h => walk_at "sz"))
  | with_reducible refine' s_asg ?_
  | with_reducible refine' s_asgl ?_
  | with_reducible refine' w_bm ?_
  | ((with_reducible refine' w_tyL ?h ?_); (case h => walk_at "lst"))
  | ((with_reducible refine' w_cat ?h ?g ?n ?_); (case h => walk_at "at"); (case g => walk_at "at"); (case n => walk_at "sz"); intro p H' hp hs ht)
  | with_reducible refine' w_meth ?_)
open Cc L2 in
local macro_rules | `(tactic| walk_at "go") => `(tactic| (walk_at "go1"; repeat walk_at "go1"))
open Cc L2 in
local macro_rules | `(tactic| walk_at "gog1") => `(tactic| first
  | ((with_reducible refine' w_var ?h ?_); (case h => exact rfl))
  | with_reducible refine' w_c ?_
  | with_reducible refine' w_op ?_
  | with_reducible refine' w_cons ?_
  | with_reducible refine' w_nil ?_
  | ((with_reducible refine' w_ixT ?h ?e ?_); (case h => walk_at "tup"); (case e => first | exact rfl | exact atI_zero))
  | ((with_reducible refine' w_ixL ?h ?e ?_); (case h => walk_at "lst"); (case e => first | exact rfl | exact atI_zero))
  | with_reducible refine' w_eqS ?_
  | ((with_reducible refine' w_addS ?h ?_); (case h => walk_at "sz"))
  | with_reducible refine' w_test ?_
  | with_reducible refine' w_B ?_
  | with_reducible refine' w_bl ?_
  | with_reducible refine' w_bl2 ?_
  | with_reducible refine' s_set ?_
  | with_reducible refine' s_when ?_
  | with_reducible refine' s_whenl ?_
  | with_reducible refine' s_if ?_
  | with_reducible refine' s_ifl ?_
  | with_reducible refine' s_ret ?_
  | with_reducible refine' s_drop ?_
  | with_reducible refine' s_dropl ?_
  | with_reducible refine' s_setl ?_
  | with_reducible refine' w_t (by decide) ?_
  | with_reducible refine' w_f (by decide) ?_
  | with_reducible refine' w_t (by with_unfolding_all exact rfl) ?_
  | with_reducible refine' w_f (by with_unfolding_all exact rfl) ?_
  | with_reducible refine' w_I0 ?_
  | with_reducible refine' w_eqI ?_
  | with_reducible refine' w_neS ?_
  | with_reducible refine' w_call ?_
  | with_reducible refine' w_callB ?_
  | with_reducible refine' w_not ?_
  | with_reducible refine' w_and ?_
  | with_reducible refine' w_or ?_
  | with_reducible refine' w_andV ?_
  | with_reducible refine' w_orV ?_
  | with_reducible refine' w_notV ?_
  | with_reducible refine' w_if ?_
  | with_reducible refine' w_m1 ?_
  | with_reducible refine' w_m1' ?_
  | with_reducible refine' w_tup ?_
  | with_reducible refine' w_lst ?_
  | ((with_reducible refine' w_newT ?n ?_); (case n => exact Nat.le_of_ble_eq_true rfl); intro p H' hp hs ht)
  | ((with_reducible refine' w_newL ?n ?_); (case n => exact Nat.le_of_ble_eq_true rfl); intro p H' hp hs ht)
  | ((with_reducible refine' w_in (Or.inr ?h) ?x ?s ?_); (case h => walk_at "tup"); (case x => exact rfl); (case s => exact rfl))
  | ((with_reducible refine' w_in (Or.inl ?h) ?x ?s ?_); (case h => walk_at "lst"); (case x => exact rfl); (case s => exact rfl))
  | with_reducible refine' w_isNone ?_
  | with_reducible refine' w_un ?_
  | with_reducible refine' w_neg ?_
  | with_reducible refine' w_inSign ?_
  | ((with_reducible refine' w_lenS ?h ?_); (case h => walk_at "sz"))
  | ((with_reducible refine' w_lenT ?h ?_); (case h => walk_at "tup"))
  | ((with_reducible refine' w_lenL ?h ?_); (case h => walk_at "lst"))
  | with_reducible refine' w_int1 ?_
  | with_reducible refine' w_abs ?_
  | ((with_reducible refine' w_strI ?h ?_); (case h => walk_at "sz"))
  | with_reducible refine' s_asg ?_
  | with_reducible refine' s_asgl ?_
  | with_reducible refine' w_bm ?_
  | ((with_reducible refine' w_tyL ?h ?_); (case h => walk_at "lst"))
  | ((with_reducible refine' w_cat ?h ?g ?n ?_); (case h => walk_at "at"); (case g => walk_at "at"); (case n => walk_at "sz"); intro p H' hp hs ht)
  | with_reducible refine' w_meth ?_)
open Cc L2 in
local macro_rules | `(tactic| walk_at "gog") => `(tactic| (walk_at "gog1"; repeat walk_at "gog1"))
open Cc L2 in
local macro_rules | `(tactic| walk_at "fx") => `(tactic| first | exact Fx.refl _ | assumption | exact same_fx (by assumption) | (refine' Fx.trans ?l ?r; (case r => first | assumption | exact same_fx (by assumption)); (case l => walk_at "fx")))
open Cc L2 in
local macro_rules | `(tactic| walk_at "dpg") => `(tactic| first | assumption | exact Dp.str _ | exact Dp.int _ | exact Dp.non | (refine' dp_fx ?e ?n ?p ?h; (case h => assumption); (case n => exact Gs.noTup (by assumption)); (case e => walk_at "fx"); (case p => walk_at "plain")))
open Cc L2 in
local macro_rules | `(tactic| walk_at "gs") => `(tactic| first | assumption | exact Gs.same (by assumption) (by assumption))
namespace Cc
def sp__law_word (K : PySem.W.Frag) : Sp := fun vs H Q _ => ∃ (l a : Addr), vs = [.ref l, .ref a] ∧ Gs K H l a ∧ RetG K l a H Q fun v _ => ∃ x : Tx, v = .str (mk x) ∧ wordOk x = true
def sp__law_name (K : PySem.W.Frag) : Sp := fun vs H Q _ => ∃ (l a : Addr), vs = [.ref l, .ref a] ∧ Gs K H l a ∧ RetG K l a H Q fun v _ => ∃ x : Tx, v = .str (mk x) ∧ nameOk x = true
theorem let_at {r : Nat} (h : r < 26) : ∃ c, atI g_LETTERS (r : Int) = some c ∧ isLet c = true := by
  have hl : g_LETTERS.length = 26 := rfl
  have hr : r < g_LETTERS.length := by rw [hl]; exact h
  exact ⟨g_LETTERS[r], atI_nat (List.getElem?_eq_getElem hr), (isLet_iff _).mp (List.getElem_mem hr)⟩
theorem wc_at {r : Nat} (h : r < 37) : ∃ c, atI g_WORD_CHARACTERS (r : Int) = some c ∧ isWc c = true := by
  have hl : g_WORD_CHARACTERS.length = 37 := rfl
  have hr : r < g_WORD_CHARACTERS.length := by rw [hl]; exact h
  exact ⟨g_WORD_CHARACTERS[r], atI_nat (List.getElem?_eq_getElem hr), (isWc_iff _).mp (List.getElem_mem hr)⟩
theorem pu__law_word {K : PySem.W.Frag} (vs : List V) (H : Hp) (Q : VK) (E : XK) (h : sp__law_word K vs H Q E) :
    t__law_word K (sp__law_next K) { nx := fun _ H' => Q .non H', rt := Q } (start n__law_word vs) H := by
  obtain ⟨l, a, rfl, g0, q⟩ := h
  delta t__law_word
  walk_at "gog"
  rename_i p H1 hp e1 hl1
  have g1 := g0.same e1
  have np := g0.ne hp
  refine ⟨l, a, 2, rfl, by decide, by decide, g1, ?_⟩
  rintro v H2 f2 g2 ⟨r, rfl, hr⟩
  have hl2 := f2 p _ np hl1
  have hm : ∃ m : Int, atI [V.int 3, V.int 12] (r : Int) = some (.int m) ∧ 1 ≤ m ∧ m ≤ 12 := by
    rcases (by omega : r = 0 ∨ r = 1) with rfl | rfl
    · exact ⟨3, rfl, by decide, by decide⟩
    · exact ⟨12, rfl, by decide, by decide⟩
  obtain ⟨m, hm1, hm2, hm3⟩ := hm
  refine w_ixL (SqL.of hl2) hm1 ?_
  walk_at "gog"
  refine ⟨l, a, m, rfl, by omega, by omega, g2, ?_⟩
  rintro v H3 f3 g3 ⟨n, rfl, hn⟩
  walk_at "gog"
  refine ⟨l, a, 26, rfl, by decide, by decide, g3, ?_⟩
  rintro v H4 f4 g4 ⟨r4, rfl, hr4⟩
  obtain ⟨c, hc, hc2⟩ := let_at (show r4 < 26 by omega)
  refine w_ixS (z := g_LETTERS) (by decide) hc ?_
  have F4 : Fx l H H4 := (((same_fx e1).trans f2).trans f3).trans f4
  refine l_forR (n := n) (fun Q q => by walk_at "gog"; rw [show (1 : Int) + (n : Int) - 1 = (n : Int) by omega]; exact q) (by omega)
    (fun i σ H' => ∃ x w, σ = [some (.ref l), some (.ref a), some (.str (mk g_LETTERS)), some (.str (mk g_WORD_CHARACTERS)), some (.int (1 + (n : Int))), some (.str (mk (c :: x))), w] ∧ Fx l H H' ∧ Gs K H' l a ∧ x.length = i ∧ x.all isWc = true)
    ⟨[], none, rfl, F4, g4, rfl, rfl⟩ (fun i σ' H' hi ⟨x, w, hσ, F, g, hx, hx2⟩ => ?_) (fun σ' H' ⟨x, w, hσ, F, g, hx, hx2⟩ => ?_)
  · subst hσ
    walk_at "gog"
    refine ⟨l, a, 37, rfl, by decide, by decide, g, ?_⟩
    rintro v H5 f5 g5 ⟨r5, rfl, hr5⟩
    obtain ⟨d, hd, hd2⟩ := wc_at (show r5 < 37 by omega)
    refine w_ixS (z := g_WORD_CHARACTERS) (by decide) hd ?_
    walk_at "gog"
    refine ⟨x ++ [d], _, rfl, F.trans f5, g5, by rw [List.length_append, hx]; rfl, ?_⟩
    rw [List.all_append, hx2]
    simp [hd2]
  · subst hσ
    walk_at "gog"
    refine q _ H' F g ⟨c :: x, rfl, ?_⟩
    unfold wordOk
    have hcw : isWc c = true := by
      unfold isWc
      rw [hc2] <;> rfl
    simp only [hc2, List.all_cons, hcw, hx2, List.length_cons, hx, Bool.true_and, decide_eq_true_eq]
    omega
theorem resv_x {x : Tx} (h : resv.contains x = true) : nameOk (x ++ [120]) = true := by
  have hm : x ∈ resv := by
    rw [List.contains_eq_mem, decide_eq_true_eq] at h
    exact h
  have : ∀ y ∈ resv, nameOk (y ++ [120]) = true := by decide
  exact this x hm
theorem pu__law_name {K : PySem.W.Frag} (vs : List V) (H : Hp) (Q : VK) (E : XK) (h : sp__law_name K vs H Q E) :
    t__law_name K (sp__law_word K) sp__law_reserved { nx := fun _ H' => Q .non H', rt := Q } (start n__law_name vs) H := by
  obtain ⟨l, a, rfl, g0, q⟩ := h
  delta t__law_name
  walk_at "gog"
  refine ⟨l, a, rfl, g0, ?_⟩
  rintro v H1 f1 g1 ⟨x, rfl, hx⟩
  have hx12 : x.length ≤ 12 := by
    unfold wordOk at hx
    simp only [Bool.and_eq_true, decide_eq_true_eq] at hx
    exact hx.2
  walk_at "gog"
  refine ⟨rfl, fun p H2 hp e2 hl2 => ?_⟩
  refine w_in (Or.inl (SqL.of hl2)) rfl (flat_sgV _) ?_
  refine w_bl2 ?_
  have F2 : Fx l H H2 := f1.trans (same_fx e2)
  refine w_inC resv (fun h => ?_) (fun h => ?_)
  · walk_at "gog"
    exact q _ H2 F2 (g1.same e2) ⟨_, rfl, resv_x h⟩
  · walk_at "gog"
    refine q _ H2 F2 (g1.same e2) ⟨x, rfl, ?_⟩
    unfold nameOk
    rw [hx, h] <;> rfl
end Cc
namespace Cc
def sp__law_any_expression (K : PySem.W.Frag) (n : Nat) : Sp := fun vs H Q _ => ∃ (l a : Addr) (m : Nat), vs = [.ref l, .ref a, .int (m : Int)] ∧ n = m + 1 ∧ m ≤ 3 ∧ Gs K H l a ∧ RetG K l a H Q fun v H' => ∃ e : Ex, e.ok m ∧ Dp K H' v e.da
theorem v3 {x y : V} {i j : Int} (h : i = j) : [x, y, V.int i] = [x, y, V.int j] := by rw [h]
theorem sg_at {r : Nat} (h : (r : Int) < 5) : ∃ g : Sg, atI [V.str (mk [43]), .str (mk [45]), .str (mk [42]), .str (mk [47]), .str (mk [109, 111, 100])] (r : Int) = some (.str (mk g.tx)) := by
  rcases (by omega : r = 0 ∨ r = 1 ∨ r = 2 ∨ r = 3 ∨ r = 4) with rfl | rfl | rfl | rfl | rfl
  · exact ⟨.add, rfl⟩
  · exact ⟨.sub, rfl⟩
  · exact ⟨.mul, rfl⟩
  · exact ⟨.div, rfl⟩
  · exact ⟨.mod, rfl⟩
theorem rl_at {r : Nat} (h : (r : Int) < 4) : ∃ g : Rl, atI [V.str (mk [60]), .str (mk [60, 61]), .str (mk [61, 61]), .str (mk [33, 61])] (r : Int) = some (.str (mk g.tx)) := by
  rcases (by omega : r = 0 ∨ r = 1 ∨ r = 2 ∨ r = 3) with rfl | rfl | rfl | rfl
  · exact ⟨.lt, rfl⟩
  · exact ⟨.le, rfl⟩
  · exact ⟨.eq, rfl⟩
  · exact ⟨.ne, rfl⟩
theorem two_at {r : Nat} {x y : V} (h : (r : Int) < 2) : ∃ b : Bool, atI [x, y] (r : Int) = some (if b then x else y) := by
  rcases (by omega : r = 0 ∨ r = 1) with rfl | rfl
  · exact ⟨true, rfl⟩
  · exact ⟨false, rfl⟩
theorem ok_op {j : Nat} {g : Sg} {a b : Ex} (h1 : a.ok j) (h2 : b.ok j) : (Ex.op g a b).ok (j + 1) := ⟨h1, h2⟩
theorem ok_num {j : Nat} {i : Int} (h : -10000 ≤ i ∧ i ≤ 10000) : (Ex.num i).ok j := by cases j <;> exact h
theorem ok_name {j : Nat} {x : Tx} (h : nameOk x = true) : (Ex.name x).ok j := by cases j <;> exact h
theorem da_op (g : Sg) (a b : Ex) : (Ex.op g a b).da = .tuple [.str (mk [111, 112]), S g.tx, a.da, b.da] := rfl
theorem da_num (i : Int) : (Ex.num i).da = .tuple [.str (mk [110, 117, 109, 98, 101, 114]), .int i] := rfl
theorem da_name (x : Tx) : (Ex.name x).da = .tuple [.str (mk [110, 97, 109, 101]), S x] := rfl
theorem pu__law_any_expression {K : PySem.W.Frag} {n : Nat} (vs : List V) (H : Hp) (Q : VK) (E : XK) (h : sp__law_any_expression K (n + 1) vs H Q E) :
    t__law_any_expression K (sp__law_next K) (sp__law_any_expression K n) (sp__law_name K) { nx := fun _ H' => Q .non H', rt := Q } (start n__law_any_expression vs) H := by
  obtain ⟨l, a, m, rfl, hm, h3, g0, q⟩ := h
  delta t__law_any_expression
  walk_at "gog"
  refine ⟨l, a, 5, rfl, by decide, by decide, g0, ?_⟩
  rintro v H1 f1 g1 ⟨r, rfl, hr⟩
  have fin : ∀ (D : Ends), D.rt = Q →
      (tSeq (tIfS (tTest (tOp rEq (tVar 3) (tC (.int 2)))) (tRet (tTup (tCons (tC (.str (mk [110, 117, 109, 98, 101, 114]))) (tCons (tOp rMulI (tOp (rIxL K) (tLst (tCons (tC (.int 1)) (tCons (tUn rNegI (tC (.int 1))) tNil))) (tCall (sp__law_next K) [] E0 (tCons (tVar 0) (tCons (tVar 1) (tCons (tC (.int 2)) tNil))))) (tCall (sp__law_next K) [] E0 (tCons (tVar 0) (tCons (tVar 1) (tCons (tOp (rIxL K) (tLst (tCons (tC (.int 12)) (tCons (tC (.int 10001)) tNil))) (tCall (sp__law_next K) [] E0 (tCons (tVar 0) (tCons (tVar 1) (tCons (tC (.int 2)) tNil))))) tNil))))) tNil)))) tNext)
      (tRet (tTup (tCons (tC (.str (mk [110, 97, 109, 101]))) (tCons (tCall (sp__law_name K) [] E0 (tCons (tVar 0) (tCons (tVar 1) tNil))) tNil))))) D
      [some (.ref l), some (.ref a), some (.int (m : Int)), some (.int (r : Int)), none, none] H1 := by
    intro D hD
    walk_at "gog"
    refine w_dec (fun hc => ?_) (fun hc => ?_)
    · walk_at "gog"
      rename_i p H2 hp e2 hl2
      have g2 := g1.same e2
      refine ⟨l, a, 2, rfl, by decide, by decide, g2, ?_⟩
      rintro v H3 f3 g3 ⟨r3, rfl, hr3⟩
      have hl3 := f3 p _ (g1.ne hp) hl2
      obtain ⟨b3, hb3⟩ := two_at (x := .int 1) (y := .int (-1)) hr3
      refine w_ixL (SqL.of hl3) hb3 ?_
      walk_at "gog"
      rename_i p4 H4 hp4 e4 hl4
      have g4 := g3.same e4
      refine ⟨l, a, 2, rfl, by decide, by decide, g4, ?_⟩
      rintro v H5 f5 g5 ⟨r5, rfl, hr5⟩
      have hl5 := f5 p4 _ (g3.ne hp4) hl4
      obtain ⟨b5, hb5⟩ := two_at (x := .int 12) (y := .int 10001) hr5
      refine w_ixL (SqL.of hl5) hb5 ?_
      walk_at "gog"
      refine ⟨l, a, if b5 then 12 else 10001, by cases b5 <;> rfl, by cases b5 <;> decide, by cases b5 <;> decide, g5, ?_⟩
      rintro v H6 f6 g6 ⟨r6, rfl, hr6⟩
      have hr6' : (r6 : Int) ≤ 10000 := by
        have : (if b5 = true then (12 : Int) else 10001) ≤ 10001 := by cases b5 <;> decide
        omega
      have hx : (if b3 = true then V.int 1 else V.int (-1)) = V.int (if b3 = true then 1 else -1) := by cases b3 <;> rfl
      rw [hx]
      refine w_I (C := CMul) (Or.inl (by cases b3 <;> decide)) ?_
      walk_at "gog"
      rename_i p7 H7 hp7 e7 hl7
      rw [hD]
      refine q _ H7 (by walk_at "fx") (g6.same e7) ⟨.num ((if b3 = true then 1 else -1) * (r6 : Int)), ok_num ?_, ?_⟩
      · cases b3
        · rw [if_neg (by decide)]; omega
        · rw [if_pos rfl]; omega
      · rw [da_num]
        exact .tup (SqT.of hl7) (.cons (.str _) (.cons (.int _) .nil))
    · walk_at "gog"
      refine ⟨l, a, rfl, g1, ?_⟩
      rintro v H2 f2 g2 ⟨x, rfl, hx⟩
      walk_at "gog"
      rename_i p7 H7 hp7 e7 hl7
      rw [hD]
      refine q _ H7 (by walk_at "fx") (g2.same e7) ⟨.name x, ok_name hx, ?_⟩
      rw [da_name]
      exact .tup (SqT.of hl7) (.cons (.str _) (.cons (.str _) .nil))
  walk_at "gog"
  refine w_dec (fun hc => ?_) (fun hc => ?_)
  · walk_at "gog"
    refine w_dec (fun hc2 => ?_) (fun hc2 => ?_)
    · walk_at "gog"
      obtain ⟨j, rfl⟩ : ∃ j, m = j + 1 := ⟨m - 1, by omega⟩
      refine ⟨l, a, j, v3 (by omega), by omega, by omega, g1, ?_⟩
      rintro v H2 f2 g2 ⟨e1, he1, hd1⟩
      walk_at "gog"
      rename_i p3 H3 hp3 e3 hl3
      have g3 := g2.same e3
      refine ⟨l, a, 5, rfl, by decide, by decide, g3, ?_⟩
      rintro v4 H4 f4 g4 ⟨r4, rfl, hr4⟩
      have hl4 := f4 p3 _ (g2.ne hp3) hl3
      obtain ⟨sg, hsg⟩ := sg_at hr4
      refine w_ixL (SqL.of hl4) hsg ?_
      walk_at "gog"
      refine ⟨l, a, j, v3 (by omega), by omega, by omega, g4, ?_⟩
      rintro v5 H5 f5 g5 ⟨e2, he2, hd2⟩
      walk_at "gog"
      rename_i p6 H6 hp6 e6 hl6
      have a1 : Dp K H6 v e1.da := by walk_at "dpg"
      have a2 : Dp K H6 v5 e2.da := by walk_at "dpg"
      refine q _ H6 (by walk_at "fx") (g5.same e6) ⟨.op sg e1 e2, ok_op he1 he2, ?_⟩
      rw [da_op]
      exact .tup (SqT.of hl6) (.cons (.str _) (.cons (.str _) (.cons a1 (.cons a2 .nil))))
    · exact fin _ rfl
  · exact fin _ rfl
end Cc
namespace Cc
def sp__law_any_condition (K : PySem.W.Frag) (n : Nat) : Sp := fun vs H Q _ => ∃ (l a : Addr) (m : Nat), vs = [.ref l, .ref a, .int (m : Int)] ∧ n = m + 1 ∧ m ≤ 2 ∧ Gs K H l a ∧ RetG K l a H Q fun v H' => ∃ c : Co, c.ok m ∧ Dp K H' v c.da
theorem ok_cmp {j : Nat} {g : Rl} {a b : Ex} (h1 : a.ok 1) (h2 : b.ok 1) : (Co.cmp g a b).ok j := by cases j <;> exact ⟨h1, h2⟩
theorem ok_not {j : Nat} {c : Co} (h1 : c.ok j) : (Co.not c).ok (j + 1) := h1
theorem ok_bin {j : Nat} {k : Bool} {a b : Co} (h1 : a.ok j) (h2 : b.ok j) : (Co.bin k a b).ok (j + 1) := ⟨h1, h2⟩
theorem da_cmp (g : Rl) (a b : Ex) : (Co.cmp g a b).da = .tuple [.str (mk [99, 111, 109, 112, 97, 114, 101]), S g.tx, a.da, b.da] := rfl
theorem da_not (c : Co) : (Co.not c).da = .tuple [.str (mk [110, 111, 116]), c.da] := rfl
theorem da_bin (k : Bool) (a b : Co) : (Co.bin k a b).da = .tuple [S (andOr k), a.da, b.da] := rfl
theorem pu__law_any_condition {K : PySem.W.Frag} {n : Nat} (vs : List V) (H : Hp) (Q : VK) (E : XK) (h : sp__law_any_condition K (n + 1) vs H Q E) :
    t__law_any_condition K (sp__law_next K) (sp__law_any_condition K n) (sp__law_any_expression K 2) { nx := fun _ H' => Q .non H', rt := Q } (start n__law_any_condition vs) H := by
  obtain ⟨l, a, m, rfl, hm, h3, g0, q⟩ := h
  delta t__law_any_condition
  walk_at "gog"
  refine ⟨l, a, 6, rfl, by decide, by decide, g0, ?_⟩
  rintro v H1 f1 g1 ⟨r, rfl, hr⟩
  have fin : ∀ (D : Ends), D.rt = Q →
      (tSeq (tAsg (tCall (sp__law_any_expression K 2) [] E0 (tCons (tVar 0) (tCons (tVar 1) (tCons (tC (.int 1)) tNil)))) (gName 4))
      (tRet (tTup (tCons (tC (.str (mk [99, 111, 109, 112, 97, 114, 101]))) (tCons (tOp (rIxL K) (tLst (tCons (tC (.str (mk [60]))) (tCons (tC (.str (mk [60, 61]))) (tCons (tC (.str (mk [61, 61]))) (tCons (tC (.str (mk [33, 61]))) tNil))))) (tCall (sp__law_next K) [] E0 (tCons (tVar 0) (tCons (tVar 1) (tCons (tC (.int 4)) tNil))))) (tCons (tVar 4) (tCons (tCall (sp__law_any_expression K 2) [] E0 (tCons (tVar 0) (tCons (tVar 1) (tCons (tC (.int 1)) tNil)))) tNil)))))))
      D [some (.ref l), some (.ref a), some (.int (m : Int)), some (.int (r : Int)), none] H1 := by
    intro D hD
    walk_at "gog"
    refine ⟨l, a, 1, rfl, rfl, by decide, g1, ?_⟩
    rintro v H2 f2 g2 ⟨e1, he1, hd1⟩
    walk_at "gog"
    rename_i p3 H3 hp3 e3 hl3
    have g3 := g2.same e3
    refine ⟨l, a, 4, rfl, by decide, by decide, g3, ?_⟩
    rintro v4 H4 f4 g4 ⟨r4, rfl, hr4⟩
    have hl4 := f4 p3 _ (g2.ne hp3) hl3
    obtain ⟨sg, hsg⟩ := rl_at hr4
    refine w_ixL (SqL.of hl4) hsg ?_
    walk_at "gog"
    refine ⟨l, a, 1, rfl, rfl, by decide, g4, ?_⟩
    rintro v5 H5 f5 g5 ⟨e2, he2, hd2⟩
    walk_at "gog"
    rename_i p6 H6 hp6 e6 hl6
    have a1 : Dp K H6 v e1.da := by walk_at "dpg"
    have a2 : Dp K H6 v5 e2.da := by walk_at "dpg"
    rw [hD]
    refine q _ H6 (by walk_at "fx") (g5.same e6) ⟨.cmp sg e1 e2, ok_cmp he1 he2, ?_⟩
    rw [da_cmp]
    exact .tup (SqT.of hl6) (.cons (.str _) (.cons (.str _) (.cons a1 (.cons a2 .nil))))
  have fin2 : ∀ (D : Ends), D.rt = Q → ¬ (0 < m ∧ r = 0) →
      (tSeq (tIfS (tAnd (tTest (tOp rGtI (tVar 2) (tC (.int 0)))) (tTest (tOp rLtI (tVar 3) (tC (.int 3))))) (tSeq (tAsg (tCall (sp__law_any_condition K n) [] E0 (tCons (tVar 0) (tCons (tVar 1) (tCons (tOp rSubI (tVar 2) (tC (.int 1))) tNil)))) (gName 4))
        (tRet (tTup (tCons (tOp (rIxL K) (tLst (tCons (tC (.str (mk [97, 110, 100]))) (tCons (tC (.str (mk [111, 114]))) tNil))) (tOp rSubI (tVar 3) (tC (.int 1)))) (tCons (tVar 4) (tCons (tCall (sp__law_any_condition K n) [] E0 (tCons (tVar 0) (tCons (tVar 1) (tCons (tOp rSubI (tVar 2) (tC (.int 1))) tNil)))) tNil)))))) tNext)
      (tSeq (tAsg (tCall (sp__law_any_expression K 2) [] E0 (tCons (tVar 0) (tCons (tVar 1) (tCons (tC (.int 1)) tNil)))) (gName 4))
      (tRet (tTup (tCons (tC (.str (mk [99, 111, 109, 112, 97, 114, 101]))) (tCons (tOp (rIxL K) (tLst (tCons (tC (.str (mk [60]))) (tCons (tC (.str (mk [60, 61]))) (tCons (tC (.str (mk [61, 61]))) (tCons (tC (.str (mk [33, 61]))) tNil))))) (tCall (sp__law_next K) [] E0 (tCons (tVar 0) (tCons (tVar 1) (tCons (tC (.int 4)) tNil))))) (tCons (tVar 4) (tCons (tCall (sp__law_any_expression K 2) [] E0 (tCons (tVar 0) (tCons (tVar 1) (tCons (tC (.int 1)) tNil)))) tNil))))))))
      D [some (.ref l), some (.ref a), some (.int (m : Int)), some (.int (r : Int)), none] H1 := by
    intro D hD hno
    walk_at "gog"
    refine w_dec (fun hc => ?_) (fun hc => ?_)
    · walk_at "gog"
      refine w_dec (fun hc2 => ?_) (fun hc2 => ?_)
      · obtain ⟨j, rfl⟩ : ∃ j, m = j + 1 := ⟨m - 1, by omega⟩
        have hr12 : r = 1 ∨ r = 2 := by omega
        walk_at "gog"
        refine ⟨l, a, j, v3 (by omega), by omega, by omega, g1, ?_⟩
        rintro v H2 f2 g2 ⟨e1, he1, hd1⟩
        have tailK : ∀ (kk : Bool) (p3 : Addr) (H3 : Hp), Same H2 H3 → (tCall (sp__law_any_condition K n) [] E0 (tCons (tVar 0) (tCons (tVar 1) (tCons (tOp rSubI (tVar 2) (tC (.int 1))) tNil)))) [some (.ref l), some (.ref a), some (.int ((j + 1 : Nat) : Int)), some (.int (r : Int)), some v] H3
            fun x H4 => NewT [.str (mk (andOr kk)), v, x] H4 D.rt := by
          intro kk p3 H3 e3
          have g3 := g2.same e3
          walk_at "gog"
          refine ⟨l, a, j, v3 (by omega), by omega, by omega, g3, ?_⟩
          rintro v5 H5 f5 g5 ⟨e2, he2, hd2⟩
          walk_at "gog"
          rename_i p6 H6 hp6 e6 hl6
          have a1 : Dp K H6 v e1.da := by walk_at "dpg"
          have a2 : Dp K H6 v5 e2.da := by walk_at "dpg"
          rw [hD]
          refine q _ H6 (by walk_at "fx") (g5.same e6) ⟨.bin kk e1 e2, ok_bin he1 he2, ?_⟩
          rw [da_bin]
          exact .tup (SqT.of hl6) (.cons (.str _) (.cons a1 (.cons a2 .nil)))
        refine s_ret (w_tup (w_cons (w_op ?_)))
        refine w_lst (w_cons (w_c (w_cons (w_c (w_nil (w_newL (Nat.le_of_ble_eq_true rfl) fun p3 H3 hp3 e3 hl3 => ?_))))))
        refine w_op (w_var rfl (w_c (w_I0 ?_)))
        rcases hr12 with rfl | rfl
        · refine w_ixL (SqL.of hl3) (v := .str (mk kAnd)) rfl ?_
          exact w_cons (w_var rfl (w_cons (tailK true p3 H3 e3)))
        · refine w_ixL (SqL.of hl3) (v := .str (mk kOr)) rfl ?_
          exact w_cons (w_var rfl (w_cons (tailK false p3 H3 e3)))
      · exact fin _ hD
    · exact fin _ hD
  walk_at "gog"
  refine w_dec (fun hc => ?_) (fun hc => ?_)
  · walk_at "gog"
    refine w_dec (fun hc2 => ?_) (fun hc2 => ?_)
    · obtain ⟨j, rfl⟩ : ∃ j, m = j + 1 := ⟨m - 1, by omega⟩
      walk_at "gog"
      refine ⟨l, a, j, v3 (by omega), by omega, by omega, g1, ?_⟩
      rintro v H2 f2 g2 ⟨e1, he1, hd1⟩
      walk_at "gog"
      rename_i p6 H6 hp6 e6 hl6
      have a1 : Dp K H6 v e1.da := by walk_at "dpg"
      refine q _ H6 (by walk_at "fx") (g2.same e6) ⟨.not e1, ok_not he1, ?_⟩
      rw [da_not]
      exact .tup (SqT.of hl6) (.cons (.str _) (.cons a1 .nil))
    · exact fin2 _ rfl (fun z => hc2 (by omega))
  · exact fin2 _ rfl (fun z => hc (by omega))
end Cc
namespace Cc
/-! ### a comprehension over a range, each turn of which draws -/
def LcR (j : Nat) (te : TE) (σ : L2.St) (vs : List V) (H1 : Hp) (Q : VK) : Prop := ∃ i : Int, vs = [.int i] ∧ -(2 ^ 62) ≤ i ∧ i < 2 ^ 62 ∧ ∀ D, H1 D = none → ∃ W : Nat → Nat → Hp → Prop, (∃ m, W 0 m (upd H1 D (.lst []))) ∧ ∀ k m H, W k m H →
  ((Itr 0 i.toNat).stop k H ∧ Q (.ref D) H) ∨ ((Itr 0 i.toNat).go k H ∧ ∃ Nx : Hp → Prop, (∀ H', Nx H' → ∃ m', m' < m ∧ W (k + 1) m' H') ∧ ∀ x H', (Itr 0 i.toNat).yld k H x H' → gName j x (wipe σ [j]) H' fun σ2 H2 => wipe σ2 [j] = wipe σ [j] ∧ tYes σ2 H2 fun b H3 =>
    if b = true then te σ2 H3 fun y H4 => ∃ acc, H4 D = some (.lst acc) ∧ acc.length < sizeLine ∧ Nx (upd H4 D (.lst (acc ++ [y]))) else Nx H3)
section
variable {K : PySem.W.Frag} {σ : L2.St} {H : Hp} {Q : VK} {te : TE} {tr : TA} {j n : Nat} {l a : Addr}
theorem w_lcR (h : tr σ H fun vs H1 => LcR j te σ vs H1 Q) : tLc (iRng1 tr) (gName j) tYes te [j] σ H Q := h
theorem plain_map {α : Type} {da : α → PyData} (h : ∀ z, plainD (da z) = true) : ∀ zs : List α, plainD.plainDs (zs.map da) = true
  | [] => rfl
  | z :: r => by
    show (plainD (da z) && plainD.plainDs (r.map da)) = true
    rw [h z, plain_map h r] <;> rfl
theorem w_lcRn {α : Type} (da : α → PyData) (ok : α → Prop) (hpl : ∀ z, plainD (da z) = true) {i : Int} (hi : i = n) (g : Gs K H l a) (hn : n ≤ 1000) (hw : ∀ x, wipe ((wipe σ [j]).set j (some x)) [j] = wipe σ [j])
    (he : ∀ (x : V) (H2 : Hp), Fx l H H2 → Gs K H2 l a → ∀ Q' : VK, (∀ v H3, Fx l H2 H3 → Gs K H3 l a → (∃ z, ok z ∧ Dp K H3 v (da z)) → Q' v H3) → te ((wipe σ [j]).set j (some x)) H2 Q')
    (hd : ∀ (D : Addr) (H' : Hp) (ys : List V) (zs : List α), H D = none → Fx l H H' → Gs K H' l a → H' D = some (.lst ys) → zs.length = n → (∀ z ∈ zs, ok z) → DpAll K H' ys (zs.map da) → Q (.ref D) H') : LcR j te σ [.int i] H Q := by
  subst hi
  refine ⟨(n : Int), rfl, by omega, by omega, fun D hD => ?_⟩
  have en : ((n : Int)).toNat = n := by omega
  rw [en]
  obtain ⟨gS, ns, gC⟩ := g
  have lD : D ≠ l := Gs.ne ⟨gS, ns, gC⟩ hD
  refine lc_range (lo := 0) (n := n) (fun i H' => Fx l H H' ∧ Stt H' l ∧ ∃ (ys : List V) (zs : List α), H' D = some (.lst ys) ∧ zs.length = i ∧ (∀ z ∈ zs, ok z) ∧ DpAll K H' ys (zs.map da)) ⟨same_fx (same_upd hD _), ?_, [], [], upd_same, rfl, (fun z hz => nomatch hz), .nil⟩
    (fun i H' hi ⟨F, S, ys, zs, h1, h2, h3, h4⟩ => ⟨hw _, ?_⟩) (fun H' ⟨F, S, ys, zs, h1, h2, h3, h4⟩ => hd D H' ys zs hD F ⟨S, ns, gC.fx F⟩ h1 h2 h3 h4)
  · obtain ⟨i0, i1, i2, i3, hl, hr⟩ := gS
    exact ⟨i0, i1, i2, i3, by rw [upd_ne lD.symm]; exact hl, hr⟩
  · refine w_yes (iteT (he _ H' F ⟨S, ns, gC.fx F⟩ _ fun v H3 f3 g3 ⟨z, hz, hdz⟩ => ⟨ys, f3 D _ lD h1, ?_, ?_⟩))
    · have := dpall_len h4
      rw [List.length_map] at this
      exact Nat.lt_of_le_of_lt (by omega : ys.length ≤ 1000) (by decide)
    · have hD3 := f3 D _ lD h1
      have k1 : Fx D H3 (upd H3 D (.lst (ys ++ [v]))) := fx_upd
      have nD : NoTup H3 D := noTup_lst hD3
      refine ⟨fx_mut (F.trans f3) hD, ?_, ys ++ [v], zs ++ [z], upd_same, by rw [List.length_append, h2]; rfl, ?_, ?_⟩
      · obtain ⟨⟨i0, i1, i2, i3, hl, hr⟩, _⟩ := g3
        exact ⟨i0, i1, i2, i3, by rw [upd_ne lD.symm]; exact hl, hr⟩
      · intro y hy
        rcases List.mem_append.mp hy with hy | hy
        · exact h3 y hy
        · rw [List.mem_singleton.mp hy]
          exact hz
      · rw [List.map_append]
        refine dpall_snoc ?_ ?_
        · exact dp_keepAll (fun _ _ y => k1.sqt nD (f3.sqt S.noTup y)) _ _ (plain_map hpl zs) h4
        · exact dp_keep (fun _ _ y => k1.sqt nD y) _ _ (hpl z) hdz
end
def sp__law_any_call (K : PySem.W.Frag) : Sp := fun vs H Q _ => ∃ (l a : Addr), vs = [.ref l, .ref a] ∧ Gs K H l a ∧ RetG K l a H Q fun v H' => ∃ s : Sm, (∀ m, s.ok m) ∧ Dp K H' v s.da
theorem ok_call {m : Nat} {f : Tx} {es : List Ex} {t : Option Tx} (h1 : nameOk f = true) (h2 : es.length ≤ 3) (h3 : ∀ e ∈ es, e.ok 1) (h4 : ∀ x ∈ t, nameOk x = true) : (Sm.call f es t).ok m := by
  cases m <;> (simp only [Sm.ok]; exact ⟨h1, h2, h3, h4⟩)
theorem exs_plainT (es : List Ex) : plainD (.tuple (es.map Ex.da)) = true := exs_plain es
theorem pu__law_any_call {K : PySem.W.Frag} (vs : List V) (H : Hp) (Q : VK) (E : XK) (h : sp__law_any_call K vs H Q E) :
    t__law_any_call K (sp__law_next K) (sp__law_any_expression K 2) (sp__law_name K) { nx := fun _ H' => Q .non H', rt := Q } (start n__law_any_call vs) H := by
  obtain ⟨l, a, rfl, g0, q⟩ := h
  delta t__law_any_call
  refine s_set (w_callB (w_cons (w_lcR ?_)))
  walk_at "gog"
  refine ⟨l, a, 4, rfl, by decide, by decide, g0, ?_⟩
  rintro v H1 f1 g1 ⟨r, rfl, hr⟩
  walk_at "gog"
  refine w_lcRn (n := r) Ex.da (Ex.ok 1) ex_plain rfl g1 (by omega) (fun _ => rfl) (fun x H2 f2 g2 Q' q' => ?_) (fun D H2 ys es hD f2 g2 hy hn hk hds => ?_)
  · walk_at "gog"
    exact ⟨l, a, 1, rfl, rfl, by decide, g2, fun v H3 f3 g3 h3 => q' v H3 f3 g3 h3⟩
  · walk_at "gog"
    refine w_tupL (SqL.of hy) fun p3 H3 hp3 e3 hl3 => ?_
    have g3 := g2.same e3
    have d3 : Dp K H3 (.ref p3) (.tuple (es.map Ex.da)) := .tup (SqT.of hl3) (dp_keepAll (fun _ _ y => same_sqt e3 y) _ _ (exs_plain es) hds)
    have hle : es.length ≤ 3 := by omega
    walk_at "gog"
    refine ⟨l, a, rfl, g3, ?_⟩
    rintro v4 H4 f4 g4 ⟨f, rfl, hf⟩
    walk_at "gog"
    refine ⟨l, a, 2, rfl, by decide, by decide, g4, ?_⟩
    rintro v5 H5 f5 g5 ⟨r5, rfl, hr5⟩
    walk_at "gog"
    refine w_dec (fun hc => ?_) (fun hc => ?_)
    · walk_at "gog"
      refine ⟨l, a, rfl, g5, ?_⟩
      rintro v6 H6 f6 g6 ⟨t, rfl, ht⟩
      walk_at "gog"
      rename_i p7 H7 hp7 e7 hl7
      have d7 : Dp K H7 (.ref p3) (.tuple (es.map Ex.da)) := dp_fx (r := l) (by walk_at "fx") g3.noTup (exs_plainT es) d3
      refine q _ H7 (by walk_at "fx") (g6.same e7) ⟨.call f es (some t), fun m => ok_call hf hle hk (fun x hx => by cases hx; exact ht), ?_⟩
      simp only [Sm.da]
      exact .tup (SqT.of hl7) (.cons (.str _) (.cons (.str _) (.cons d7 (.cons (.str _) .nil))))
    · walk_at "gog"
      rename_i p7 H7 hp7 e7 hl7
      have d7 : Dp K H7 (.ref p3) (.tuple (es.map Ex.da)) := dp_fx (r := l) (by walk_at "fx") g3.noTup (exs_plainT es) d3
      refine q _ H7 (by walk_at "fx") (g5.same e7) ⟨.call f es none, fun m => ok_call hf hle hk (fun x hx => by cases hx), ?_⟩
      simp only [Sm.da]
      exact .tup (SqT.of hl7) (.cons (.str _) (.cons (.str _) (.cons d7 (.cons .non .nil))))
end Cc
namespace Cc
def ForR (j : Nat) (t u : TS) (D : Ends) (σ : L2.St) (vs : List V) (H1 : Hp) : Prop := tSeq (tFor (iRng1 (fun _ H' Q' => Q' vs H')) (gName j) t) u D σ H1
theorem l_forRg {σ : L2.St} {H : Hp} {tr : TA} {j : Nat} {t u : TS} {D : Ends} (h : tr σ H fun vs H1 => ForR j t u D σ vs H1) : tSeq (tFor (iRng1 tr) (gName j) t) u D σ H := h
theorem l_forRn {σ : L2.St} {H : Hp} {j : Nat} {t u : TS} {D : Ends} {n : Nat} {i : Int} (ei : i = n) (hn : n ≤ 1000000) (Pv : Nat → L2.St → Hp → Prop) (h0 : Pv 0 σ H)
    (hs : ∀ (i : Nat) σ' H', i < n → Pv i σ' H' → t { D with nx := Pv (i + 1), ct := Pv (i + 1), bk := u D } (σ'.set j (some (.int (i : Int)))) H') (hd : ∀ σ' H', Pv n σ' H' → u D σ' H') : ForR j t u D σ [.int i] H := by
  subst ei
  exact l_forR (tr := fun _ H' Q' => Q' [.int (n : Int)] H') (fun Q q => q) hn Pv h0 hs hd
def sp__law_any_block (K : PySem.W.Frag) (n : Nat) : Sp := fun vs H Q _ => ∃ (l a : Addr) (m : Nat), vs = [.ref l, .ref a, .int (m : Int)] ∧ n = m + 1 ∧ m ≤ 3 ∧ Gs K H l a ∧ RetG K l a H Q fun v H' => ∃ b : List Sm, b.length ≤ 3 ∧ (∀ s ∈ b, s.ok m) ∧ Dp K H' v (.tuple (Sm.das b))
def sp__law_any_statement (K : PySem.W.Frag) (n : Nat) : Sp := fun vs H Q _ => ∃ (l a : Addr) (m : Nat), vs = [.ref l, .ref a, .int (m : Int)] ∧ n = m + 1 ∧ m ≤ 3 ∧ Gs K H l a ∧ RetG K l a H Q fun v H' => ∃ s : Sm, s.ok m ∧ Dp K H' v s.da
theorem das_snoc (b : List Sm) (s : Sm) : Sm.das (b ++ [s]) = Sm.das b ++ [s.da] := by
  rw [das_map, das_map, List.map_append] <;> rfl
theorem pu__law_any_block {K : PySem.W.Frag} {n : Nat} (vs : List V) (H : Hp) (Q : VK) (E : XK) (h : sp__law_any_block K n vs H Q E) :
    t__law_any_block K (sp__law_next K) (sp__law_any_statement K n) { nx := fun _ H' => Q .non H', rt := Q } (start n__law_any_block vs) H := by
  obtain ⟨l, a, m, rfl, hm, h3, g0, q⟩ := h
  delta t__law_any_block
  walk_at "gog"
  rename_i p H1 hp e1 hl1
  have g1 := g0.same e1
  have np : p ≠ l := g0.ne hp
  obtain ⟨gS, ns, gC⟩ := g0
  refine l_forRg ?_
  walk_at "gog"
  refine ⟨l, a, 4, rfl, by decide, by decide, g1, ?_⟩
  rintro v H2 f2 g2 ⟨r, rfl, hr⟩
  walk_at "gog"
  refine l_forRn (n := r) rfl (by omega)
    (fun i σ H' => ∃ w ys b, σ = [some (.ref l), some (.ref a), some (.int (m : Int)), some (.ref p), w] ∧ Fx l H H' ∧ Stt H' l ∧ H' p = some (.lst ys) ∧ DpAll K H' ys (Sm.das b) ∧ b.length ≤ i ∧ ∀ s ∈ b, s.ok m)
    ⟨none, [], [], rfl, (same_fx e1).trans f2, g2.1, f2 p _ np hl1, .nil, Nat.zero_le _, fun z hz => nomatch hz⟩
    (fun i σ' H' hi ⟨w, ys, b, hσ, F, S, hy, hd, hb, hk⟩ => ?_) (fun σ' H' ⟨w, ys, b, hσ, F, S, hy, hd, hb, hk⟩ => ?_)
  · subst hσ
    obtain ⟨i0, i1, i2, i3, hl, u0, u1, u2⟩ := S
    walk_at "gog"
    refine w_dec (fun hc => ?_) (fun hc => ?_)
    · walk_at "gog"
      refine w_gSub ?_
      walk_at "gog"
      refine w_setF (k := 3) hl (by simp) fun H3 f3 hl3 => ?_
      have S3 : Stt H3 l := ⟨i0, i1, i2, i3 - 1, hl3, u0, u1, u2⟩
      have hp3 := f3 p _ np hy
      walk_at "gog"
      refine ⟨l, a, m, rfl, hm, h3, ⟨S3, ns, gC.fx (F.trans f3)⟩, ?_⟩
      rintro v H4 f4 g4 ⟨s, hs, hds⟩
      have hp4 := f4 p _ np hp3
      have lb := dpall_len hd
      rw [das_map, List.length_map] at lb
      walk_at "gog"
      refine w_append hp4 (by omega) ?_
      have k5 : Fx p H4 (upd H4 p (.lst (ys ++ [v]))) := fx_upd
      have n4 : NoTup H4 p := noTup_lst hp4
      have f34 : Fx l H' H4 := f3.trans f4
      refine ⟨_, ys ++ [v], b ++ [s], rfl, fx_mut (F.trans f34) hp, ?_, upd_same, ?_, by rw [List.length_append]; simp only [List.length_cons, List.length_nil]; omega, ?_⟩
      · obtain ⟨⟨j0, j1, j2, j3, hl4, z⟩, _⟩ := g4
        exact ⟨j0, j1, j2, j3, by rw [upd_ne np.symm]; exact hl4, z⟩
      · rw [das_snoc]
        exact dpall_snoc (dp_keepAll (fun _ _ y => k5.sqt n4 (f34.sqt (noTup_lst hl) y)) _ _ (das_plain b) hd) (dp_keep (fun _ _ y => k5.sqt n4 y) _ _ (sm_plain s) hds)
      · intro z hz
        rcases List.mem_append.mp hz with hz | hz
        · exact hk z hz
        · rw [List.mem_singleton.mp hz]
          exact hs
    · exact ⟨_, ys, b, rfl, F, ⟨i0, i1, i2, i3, hl, u0, u1, u2⟩, hy, hd, by omega, hk⟩
  · subst hσ
    walk_at "gog"
    refine w_tupL (SqL.of hy) fun z H3 hz e3 hl3 => ?_
    exact q _ H3 (F.trans (same_fx e3)) (Gs.same ⟨S, ns, gC.fx F⟩ e3) ⟨b, by omega, hk, .tup (SqT.of hl3) (dp_keepAll (fun _ _ y => same_sqt e3 y) _ _ (das_plain b) hd)⟩
end Cc
namespace Cc
theorem okS_set {m : Nat} {x : Tx} {e : Ex} (h1 : nameOk x = true) (h2 : e.ok 3) : (Sm.set x e).ok m := by cases m <;> (simp only [Sm.ok]; exact ⟨h1, h2⟩)
theorem okS_ask {m : Nat} {x : Tx} (h1 : nameOk x = true) : (Sm.ask x).ok m := by cases m <;> (simp only [Sm.ok]; exact h1)
theorem okS_tell {m : Nat} {k : Bool} {e : Ex} (h2 : e.ok 3) : (Sm.tell k e).ok m := by cases m <;> (simp only [Sm.ok]; exact h2)
theorem okS_chk {m : Nat} {k : Bool} {c : Co} (h2 : c.ok 2) : (Sm.chk k c).ok m := by cases m <;> (simp only [Sm.ok]; exact h2)
theorem okS_ite {j : Nat} {c : Co} {a b : List Sm} (h1 : c.ok 2) (h2 : a.length ≤ 3) (h3 : b.length ≤ 3) (h4 : ∀ s ∈ a, s.ok j) (h5 : ∀ s ∈ b, s.ok j) : (Sm.ite c a b).ok (j + 1) := by
  simp only [Sm.ok]
  exact ⟨h1, h2, h3, h4, h5⟩
theorem okS_whil {j : Nat} {c : Co} {a : List Sm} (h1 : c.ok 2) (h2 : a.length ≤ 3) (h4 : ∀ s ∈ a, s.ok j) : (Sm.whil c a).ok (j + 1) := by
  simp only [Sm.ok]
  exact ⟨h1, h2, h4⟩
theorem pu__law_any_statement {K : PySem.W.Frag} {n : Nat} (vs : List V) (H : Hp) (Q : VK) (E : XK) (h : sp__law_any_statement K (n + 1) vs H Q E) :
    t__law_any_statement K (sp__law_next K) (sp__law_any_condition K 3) (sp__law_any_block K n) (sp__law_any_call K) (sp__law_name K) (sp__law_any_expression K 4) { nx := fun _ H' => Q .non H', rt := Q } (start n__law_any_statement vs) H := by
  obtain ⟨l, a, m, rfl, hm, h3, g0, q⟩ := h
  delta t__law_any_statement
  walk_at "gog"
  refine ⟨l, a, 9, rfl, by decide, by decide, g0, ?_⟩
  rintro v H1 f1 g1 ⟨r, rfl, hr⟩
  have fin : ∀ (D : Ends), D.rt = Q →
      (tSeq (tIfS (tTest (tOp rLtI (tVar 3) (tC (.int 4)))) (tRet (tCall (sp__law_any_call K) [] E0 (tCons (tVar 0) (tCons (tVar 1) tNil)))) tNext)
      (tSeq (tIfS (tTest (tOp rEq (tVar 3) (tC (.int 4)))) (tRet (tTup (tCons (tC (.str (mk [97, 115, 107]))) (tCons (tCall (sp__law_name K) [] E0 (tCons (tVar 0) (tCons (tVar 1) tNil))) tNil)))) tNext)
      (tSeq (tIfS (tTest (tOp rEq (tVar 3) (tC (.int 5)))) (tRet (tTup (tCons (tOp (rIxL K) (tLst (tCons (tC (.str (mk [99, 104, 101, 99, 107]))) (tCons (tC (.str (mk [110, 101, 101, 100]))) tNil))) (tCall (sp__law_next K) [] E0 (tCons (tVar 0) (tCons (tVar 1) (tCons (tC (.int 2)) tNil))))) (tCons (tCall (sp__law_any_condition K 3) [] E0 (tCons (tVar 0) (tCons (tVar 1) (tCons (tC (.int 2)) tNil)))) tNil)))) tNext)
      (tSeq (tIfS (tTest (tOp rEq (tVar 3) (tC (.int 6)))) (tRet (tTup (tCons (tOp (rIxL K) (tLst (tCons (tC (.str (mk [116, 101, 108, 108]))) (tCons (tC (.str (mk [114, 101, 116, 117, 114, 110]))) tNil))) (tCall (sp__law_next K) [] E0 (tCons (tVar 0) (tCons (tVar 1) (tCons (tC (.int 2)) tNil))))) (tCons (tCall (sp__law_any_expression K 4) [] E0 (tCons (tVar 0) (tCons (tVar 1) (tCons (tC (.int 3)) tNil)))) tNil)))) tNext)
      (tRet (tTup (tCons (tC (.str (mk [115, 101, 116]))) (tCons (tCall (sp__law_name K) [] E0 (tCons (tVar 0) (tCons (tVar 1) tNil))) (tCons (tCall (sp__law_any_expression K 4) [] E0 (tCons (tVar 0) (tCons (tVar 1) (tCons (tC (.int 3)) tNil)))) tNil)))))))))
      D [some (.ref l), some (.ref a), some (.int (m : Int)), some (.int (r : Int)), none, none] H1 := by
    intro D hD
    walk_at "gog"
    refine w_dec (fun hc => ?_) (fun hc => ?_)
    · walk_at "gog"
      refine ⟨l, a, rfl, g1, ?_⟩
      rintro v2 H2 f2 g2 ⟨s, hs, hds⟩
      rw [hD]
      exact q _ H2 (by walk_at "fx") g2 ⟨s, hs m, hds⟩
    walk_at "gog"
    refine w_dec (fun hc => ?_) (fun hc => ?_)
    · walk_at "gog"
      refine ⟨l, a, rfl, g1, ?_⟩
      rintro v2 H2 f2 g2 ⟨x, rfl, hx⟩
      walk_at "gog"
      rename_i p7 H7 hp7 e7 hl7
      rw [hD]
      refine q _ H7 (by walk_at "fx") (g2.same e7) ⟨.ask x, okS_ask hx, ?_⟩
      simp only [Sm.da]
      exact .tup (SqT.of hl7) (.cons (.str _) (.cons (.str _) .nil))
    walk_at "gog"
    refine w_dec (fun hc => ?_) (fun hc => ?_)
    · walk_at "gog"
      rename_i p3 H3 hp3 e3 hl3
      have g3 := g1.same e3
      refine ⟨l, a, 2, rfl, by decide, by decide, g3, ?_⟩
      rintro v4 H4 f4 g4 ⟨r4, rfl, hr4⟩
      have hl4 := f4 p3 _ (g1.ne hp3) hl3
      obtain ⟨k, hk⟩ := two_at (x := .str (mk [99, 104, 101, 99, 107])) (y := .str (mk [110, 101, 101, 100])) hr4
      refine w_ixL (SqL.of hl4) hk ?_
      walk_at "gog"
      refine ⟨l, a, 2, rfl, rfl, by decide, g4, ?_⟩
      rintro v5 H5 f5 g5 ⟨c, hc5, hdc⟩
      walk_at "gog"
      rename_i p7 H7 hp7 e7 hl7
      have a1 : Dp K H7 v5 c.da := by walk_at "dpg"
      rw [hD]
      refine q _ H7 (by walk_at "fx") (g5.same e7) ⟨.chk k c, okS_chk hc5, ?_⟩
      simp only [Sm.da]
      refine .tup (SqT.of hl7) (.cons ?_ (.cons a1 .nil))
      cases k <;> exact .str _
    walk_at "gog"
    refine w_dec (fun hc => ?_) (fun hc => ?_)
    · walk_at "gog"
      rename_i p3 H3 hp3 e3 hl3
      have g3 := g1.same e3
      refine ⟨l, a, 2, rfl, by decide, by decide, g3, ?_⟩
      rintro v4 H4 f4 g4 ⟨r4, rfl, hr4⟩
      have hl4 := f4 p3 _ (g1.ne hp3) hl3
      obtain ⟨k, hk⟩ := two_at (x := .str (mk [116, 101, 108, 108])) (y := .str (mk [114, 101, 116, 117, 114, 110])) hr4
      refine w_ixL (SqL.of hl4) hk ?_
      walk_at "gog"
      refine ⟨l, a, 3, rfl, rfl, by decide, g4, ?_⟩
      rintro v5 H5 f5 g5 ⟨c, hc5, hdc⟩
      walk_at "gog"
      rename_i p7 H7 hp7 e7 hl7
      have a1 : Dp K H7 v5 c.da := by walk_at "dpg"
      rw [hD]
      refine q _ H7 (by walk_at "fx") (g5.same e7) ⟨.tell k c, okS_tell hc5, ?_⟩
      simp only [Sm.da]
      refine .tup (SqT.of hl7) (.cons ?_ (.cons a1 .nil))
      cases k <;> exact .str _
    walk_at "gog"
    refine ⟨l, a, rfl, g1, ?_⟩
    rintro v2 H2 f2 g2 ⟨x, rfl, hx⟩
    walk_at "gog"
    refine ⟨l, a, 3, rfl, rfl, by decide, g2, ?_⟩
    rintro v5 H5 f5 g5 ⟨c, hc5, hdc⟩
    walk_at "gog"
    rename_i p7 H7 hp7 e7 hl7
    have a1 : Dp K H7 v5 c.da := by walk_at "dpg"
    rw [hD]
    refine q _ H7 (by walk_at "fx") (g5.same e7) ⟨.set x c, okS_set hx hc5, ?_⟩
    simp only [Sm.da]
    exact .tup (SqT.of hl7) (.cons (.str _) (.cons (.str _) (.cons a1 .nil)))
  have fin2 : ∀ (D : Ends), D.rt = Q →
      (tSeq (tIfS (tAnd (tTest (tOp rEq (tVar 3) (tC (.int 2)))) (tTest (tOp rGtI (tVar 2) (tC (.int 0))))) (tSeq (tAsg (tCall (sp__law_any_condition K 3) [] E0 (tCons (tVar 0) (tCons (tVar 1) (tCons (tC (.int 2)) tNil)))) (gName 4))
        (tRet (tTup (tCons (tC (.str (mk [119, 104, 105, 108, 101]))) (tCons (tVar 4) (tCons (tCall (sp__law_any_block K n) [] E0 (tCons (tVar 0) (tCons (tVar 1) (tCons (tOp rSubI (tVar 2) (tC (.int 1))) tNil)))) tNil)))))) tNext)
      (tSeq (tIfS (tTest (tOp rLtI (tVar 3) (tC (.int 4)))) (tRet (tCall (sp__law_any_call K) [] E0 (tCons (tVar 0) (tCons (tVar 1) tNil)))) tNext)
      (tSeq (tIfS (tTest (tOp rEq (tVar 3) (tC (.int 4)))) (tRet (tTup (tCons (tC (.str (mk [97, 115, 107]))) (tCons (tCall (sp__law_name K) [] E0 (tCons (tVar 0) (tCons (tVar 1) tNil))) tNil)))) tNext)
      (tSeq (tIfS (tTest (tOp rEq (tVar 3) (tC (.int 5)))) (tRet (tTup (tCons (tOp (rIxL K) (tLst (tCons (tC (.str (mk [99, 104, 101, 99, 107]))) (tCons (tC (.str (mk [110, 101, 101, 100]))) tNil))) (tCall (sp__law_next K) [] E0 (tCons (tVar 0) (tCons (tVar 1) (tCons (tC (.int 2)) tNil))))) (tCons (tCall (sp__law_any_condition K 3) [] E0 (tCons (tVar 0) (tCons (tVar 1) (tCons (tC (.int 2)) tNil)))) tNil)))) tNext)
      (tSeq (tIfS (tTest (tOp rEq (tVar 3) (tC (.int 6)))) (tRet (tTup (tCons (tOp (rIxL K) (tLst (tCons (tC (.str (mk [116, 101, 108, 108]))) (tCons (tC (.str (mk [114, 101, 116, 117, 114, 110]))) tNil))) (tCall (sp__law_next K) [] E0 (tCons (tVar 0) (tCons (tVar 1) (tCons (tC (.int 2)) tNil))))) (tCons (tCall (sp__law_any_expression K 4) [] E0 (tCons (tVar 0) (tCons (tVar 1) (tCons (tC (.int 3)) tNil)))) tNil)))) tNext)
      (tRet (tTup (tCons (tC (.str (mk [115, 101, 116]))) (tCons (tCall (sp__law_name K) [] E0 (tCons (tVar 0) (tCons (tVar 1) tNil))) (tCons (tCall (sp__law_any_expression K 4) [] E0 (tCons (tVar 0) (tCons (tVar 1) (tCons (tC (.int 3)) tNil)))) tNil))))))))))
      D [some (.ref l), some (.ref a), some (.int (m : Int)), some (.int (r : Int)), none, none] H1 := by
    intro D hD
    refine s_when (w_and (w_test (w_op (w_var rfl (w_c (w_eqI (w_bl2 ?_)))))))
    refine w_dec (fun hc => ?_) (fun hc => ?_)
    · walk_at "gog"
      refine w_dec (fun hc2 => ?_) (fun hc2 => ?_)
      · obtain ⟨j, rfl⟩ : ∃ j, m = j + 1 := ⟨m - 1, by omega⟩
        walk_at "gog"
        refine ⟨l, a, 2, rfl, rfl, by decide, g1, ?_⟩
        rintro v4 H4 f4 g4 ⟨c, hc4, hdc⟩
        walk_at "gog"
        refine ⟨l, a, j, v3 (by omega), by omega, by omega, g4, ?_⟩
        rintro v5 H5 f5 g5 ⟨b, hb1, hb2, hb3⟩
        walk_at "gog"
        rename_i p7 H7 hp7 e7 hl7
        have a1 : Dp K H7 v4 c.da := by walk_at "dpg"
        have a2 : Dp K H7 v5 (.tuple (Sm.das b)) := by walk_at "dpg"
        rw [hD]
        refine q _ H7 (by walk_at "fx") (g5.same e7) ⟨.whil c b, okS_whil hc4 hb1 hb2, ?_⟩
        simp only [Sm.da]
        exact .tup (SqT.of hl7) (.cons (.str _) (.cons a1 (.cons a2 .nil)))
      · exact fin _ hD
    · exact fin _ hD
  refine s_when (w_and (w_test (w_op (w_var rfl (w_c (w_I0 (w_bl2 ?_)))))))
  refine w_dec (fun hc => ?_) (fun hc => ?_)
  · walk_at "gog"
    refine w_dec (fun hc2 => ?_) (fun hc2 => ?_)
    · obtain ⟨j, rfl⟩ : ∃ j, m = j + 1 := ⟨m - 1, by omega⟩
      walk_at "gog"
      refine ⟨l, a, 2, rfl, rfl, by decide, g1, ?_⟩
      rintro v4 H4 f4 g4 ⟨c, hc4, hdc⟩
      walk_at "gog"
      refine ⟨l, a, j, v3 (by omega), by omega, by omega, g4, ?_⟩
      rintro v5 H5 f5 g5 ⟨b, hb1, hb2, hb3⟩
      walk_at "gog"
      refine ⟨l, a, j, v3 (by omega), by omega, by omega, g5, ?_⟩
      rintro v6 H6 f6 g6 ⟨b', hb1', hb2', hb3'⟩
      walk_at "gog"
      rename_i p7 H7 hp7 e7 hl7
      have a1 : Dp K H7 v4 c.da := by walk_at "dpg"
      have a2 : Dp K H7 v5 (.tuple (Sm.das b)) := by walk_at "dpg"
      have a3 : Dp K H7 v6 (.tuple (Sm.das b')) := by walk_at "dpg"
      refine q _ H7 (by walk_at "fx") (g6.same e7) ⟨.ite c b b', okS_ite hc4 hb1 hb1' hb2 hb2', ?_⟩
      simp only [Sm.da]
      exact .tup (SqT.of hl7) (.cons (.str _) (.cons a1 (.cons a2 (.cons a3 .nil))))
    · exact fin2 _ rfl
  · exact fin2 _ rfl
end Cc
namespace Cc
def sp__law_any_program (K : PySem.W.Frag) : Sp := fun vs H Q _ => ∃ (l a : Addr), vs = [.ref l, .ref a] ∧ Gs K H l a ∧ RetG K l a H Q fun v H' => ∃ p : Pg, p.ok ∧ Dp K H' v p.da
theorem w_catA {K : PySem.W.Frag} {H : Hp} {Q : VK} {a b : Addr} {xs ys : List V} (h1 : SqT K H a xs) (h2 : SqT K H b ys) (n : xs.length + ys.length ≤ 1000) (q : ∀ z H', Same H H' → SqT K H' z (xs ++ ys) → Q (.ref z) H') : rCatA K (.ref a) (.ref b) H Q := by
  refine ⟨a, b, xs, ys, rfl, rfl, h1, h2, Nat.le_trans n (by decide), fun e => ?_, fun _ e => ?_, fun _ _ p hp => ?_⟩
  · subst e
    exact q b H (Same.refl H) h2
  · subst e
    exact q a H (Same.refl H) (by rw [List.append_nil]; exact h1)
  · exact q p _ (same_upd hp _) (SqT.of upd_same)
theorem rep_flat {v : V} : ∀ k : Nat, (List.replicate k [v]).flatten = List.replicate k v
  | 0 => rfl
  | k + 1 => by rw [List.replicate_succ, List.flatten_cons, rep_flat k, List.replicate_succ] <;> rfl
theorem w_repA {K : PySem.W.Frag} {H : Hp} {Q : VK} {a : Addr} {v : V} {k : Nat} (h1 : SqT K H a [v]) (n : k ≤ 1000) (q : ∀ z H', Same H H' → SqT K H' z (List.replicate k v) → Q (.ref z) H') : rRepA K (.ref a) (.int (k : Int)) H Q := by
  refine ⟨a, k, [v], rfl, rfl, h1, by simp, n, by simp, fun e => ?_, fun _ p hp => ?_⟩
  · subst e
    exact q a H (Same.refl H) h1
  · exact q p _ (same_upd hp _) (by rw [rep_flat]; exact SqT.of upd_same)
theorem dpall_rep {K : PySem.W.Frag} {H : Hp} {v : V} {s : Sm} (h : Dp K H v s.da) : ∀ k : Nat, DpAll K H (List.replicate k v) (Sm.das (List.replicate k s))
  | 0 => by simp only [List.replicate_zero, Sm.das]; exact .nil
  | k + 1 => by
    rw [List.replicate_succ, List.replicate_succ]
    simp only [Sm.das]
    exact .cons h (dpall_rep h k)
theorem dpall_app {K : PySem.W.Frag} {H : Hp} : ∀ {xs ys : List V} {ds es : List PyData}, DpAll K H xs ds → DpAll K H ys es → DpAll K H (xs ++ ys) (ds ++ es)
  | _, _, _, _, .nil, h => h
  | _, _, _, _, .cons h r, g => .cons h (dpall_app r g)
theorem S_plain : ∀ z : Tx, plainD (S z) = true := fun _ => rfl
theorem most_at {r : Nat} (h : (r : Int) < 3) {H : Hp} {x y z : Addr} (hx : H x = some (.lst [.int 4, .int 4, .int 4])) (hy : H y = some (.lst [.int 4, .int 4, .int 4])) (hz : H z = some (.lst [.int 9, .int 11, .int 8])) :
    ∃ (M : Addr) (A B C : Int), atI [V.ref x, .ref y, .ref z] (r : Int) = some (.ref M) ∧ H M = some (.lst [.int A, .int B, .int C]) ∧ 1 ≤ A ∧ A ≤ 9 ∧ 1 ≤ B ∧ B ≤ 11 ∧ 1 ≤ C ∧ C ≤ 8 ∧ (M = x ∨ M = y ∨ M = z) := by
  rcases (by omega : r = 0 ∨ r = 1 ∨ r = 2) with rfl | rfl | rfl
  · exact ⟨x, 4, 4, 4, rfl, hx, by decide, by decide, by decide, by decide, by decide, by decide, .inl rfl⟩
  · exact ⟨y, 4, 4, 4, rfl, hy, by decide, by decide, by decide, by decide, by decide, by decide, .inr (.inl rfl)⟩
  · exact ⟨z, 9, 11, 8, rfl, hz, by decide, by decide, by decide, by decide, by decide, by decide, .inr (.inr rfl)⟩
theorem pu__law_any_program {K : PySem.W.Frag} (vs : List V) (H : Hp) (Q : VK) (E : XK) (h : sp__law_any_program K vs H Q E) :
    t__law_any_program K (sp__law_next K) (sp__law_name K) (sp__law_any_block K 4) { nx := fun _ H' => Q .non H', rt := Q } (start n__law_any_program vs) H := by
  obtain ⟨l, a, rfl, g0, q⟩ := h
  delta t__law_any_program
  walk_at "gog"
  rename_i p1 H1 hp1 e1 hl1 p2 H2 hp2 e2 hl2 p3 H3 hp3 e3 hl3 p4 H4 hp4 e4 hl4
  have g1 := g0.same e1
  have g2 := g1.same e2
  have g3 := g2.same e3
  have g4 := g3.same e4
  refine ⟨l, a, 3, rfl, by decide, by decide, g4, ?_⟩
  rintro v H5 f5 g5 ⟨r5, rfl, hr5⟩
  obtain ⟨M, A, B, C, hat, hM, A1, A2, B1, B2, C1, C2, hMp⟩ := most_at hr5 (f5 _ _ (g0.ne hp1) (e4 _ _ (e3 _ _ (e2 _ _ hl1)))) (f5 _ _ (g1.ne hp2) (e4 _ _ (e3 _ _ hl2))) (f5 _ _ (g2.ne hp3) (e4 _ _ hl3))
  have nM : M ≠ l := by
    rcases hMp with rfl | rfl | rfl
    · exact g0.ne hp1
    · exact g1.ne hp2
    · exact g2.ne hp3
  refine w_ixL (SqL.of (f5 _ _ (g3.ne hp4) hl4)) hat ?_
  have F5 : Fx l H H5 := (same_fx e1).trans ((same_fx e2).trans ((same_fx e3).trans ((same_fx e4).trans f5)))
  clear hl1 hl2 hl3 hl4 hp1 hp2 hp3 hp4 hat hMp e1 e2 e3 e4 f5 g1 g2 g3 g4
  refine s_set (w_callB (w_cons (w_lcR ?_)))
  walk_at "gog"
  refine ⟨l, a, A, rfl, by omega, by omega, g5, ?_⟩
  rintro v H6 f6 g6 ⟨r6, rfl, hr6⟩
  walk_at "gog"
  refine w_lcRn (n := r6) S (fun x => nameOk x = true) S_plain rfl g6 (by omega) (fun _ => rfl) (fun x H2 f2 g2 Q' q' => ?_) (fun D H7 ys gs hD f7 g7 hy hn hk hds => ?_)
  · walk_at "gog"
    refine ⟨l, a, rfl, g2, ?_⟩
    rintro v H3 f3 g3 ⟨x, rfl, hx⟩
    exact q' _ H3 f3 g3 ⟨x, hx, .str _⟩
  walk_at "gog"
  refine w_tupL (SqL.of hy) fun pg H8 hpg e8 hl8 => ?_
  have g8 := g7.same e8
  have dgs : Dp K H8 (.ref pg) (.tuple (gs.map S)) := .tup (SqT.of hl8) (dp_keepAll (fun _ _ y => same_sqt e8 y) _ _ (names_plain gs) hds)
  have F8 : Fx l H H8 := F5.trans (f6.trans (f7.trans (same_fx e8)))
  have hM8 : H8 M = some (.lst [.int A, .int B, .int C]) := e8 _ _ (f7 _ _ nM (f6 _ _ nM hM))
  have hgl : gs.length ≤ 8 := by omega
  clear hM f6 f7 g5 g6 g7 hy hds e8 F5 hl8 hpg hD
  obtain ⟨⟨i0, i1, i2, i3, hl, u0, u1, u2⟩, ns, gC⟩ := g8
  walk_at "gog"
  refine w_gSub ?_
  walk_at "gog"
  refine w_setF (k := 3) hl (by simp) fun H9 f9 hl9 => ?_
  have S9 : Stt H9 l := ⟨i0, i1, i2, 12, hl9, u0, u1, u2⟩
  have C9 : Scr K H9 l a ns := gC.fx f9
  have F9 : Fx l H H9 := F8.trans f9
  have hM9 := f9 _ _ nM hM8
  have d9 : Dp K H9 (.ref pg) (.tuple (gs.map S)) := dp_fx f9 (noTup_lst hl) (names_plain gs) dgs
  clear hl9 f9 hM8 dgs hl gC F8 g0
  walk_at "gog"
  rename_i L H10 hL e10 hl10
  have nL : L ≠ l := by
    obtain ⟨j0, j1, j2, j3, hz, _⟩ := S9
    intro z
    subst z
    rw [hz] at hL
    cases hL
  have g10 : Gs K H10 l a := Gs.same ⟨S9, ns, C9⟩ e10
  have hM10 := e10 _ _ hM9
  refine l_forRg ?_
  walk_at "gog"
  refine ⟨l, a, B, rfl, by omega, by omega, g10, ?_⟩
  rintro v H11 f11 g11 ⟨r11, rfl, hr11⟩
  walk_at "gog"
  refine l_forRn (n := r11) rfl (by omega)
    (fun i σ H' => ∃ (w3 w6 w7 w8 w9 : Option V) (ys : List V) (prs : List Pr), σ = [some (.ref l), some (.ref a), some (.ref M), w3, some (.ref pg), some (.ref L), w6, w7, w8, w9] ∧ Fx l H9 H' ∧ Stt H' l ∧ H' L = some (.lst ys) ∧ DpAll K H' ys (prs.map Pr.da) ∧ prs.length = i ∧ ∀ q ∈ prs, Pr.ok q)
    ⟨_, _, _, _, _, [], [], rfl, (same_fx e10).trans f11, g11.1, f11 L _ nL hl10, .nil, rfl, fun z hz => nomatch hz⟩
    (fun i σ' H' hi ⟨w3, w6, w7, w8, w9, ys, prs, hσ, F, S', hy, hd, hb, hk'⟩ => ?_) (fun σ' H' ⟨w3, w6, w7, w8, w9, ys, prs, hσ, F, S', hy, hd, hb, hk'⟩ => ?_)
  · subst hσ
    have G' : Gs K H' l a := ⟨S', ns, C9.fx F⟩
    walk_at "gog"
    refine ⟨l, a, rfl, G', ?_⟩
    rintro v H1 f1 g1 ⟨x, rfl, hx⟩
    have hM1 : H1 M = some (.lst [.int A, .int B, .int C]) := f1 _ _ nM (F _ _ nM hM9)
    refine s_set (w_callB (w_cons (w_lcR ?_)))
    walk_at "gog"
    refine ⟨l, a, C, rfl, by omega, by omega, g1, ?_⟩
    rintro v H2 f2 g2 ⟨r2, rfl, hr2⟩
    walk_at "gog"
    refine w_lcRn (n := r2) S (fun x => nameOk x = true) S_plain rfl g2 (by omega) (fun _ => rfl) (fun x H2 f2 g2 Q' q' => ?_) (fun D H3 zs ps hD f3 g3 hz hn hk2 hds => ?_)
    · walk_at "gog"
      refine ⟨l, a, rfl, g2, ?_⟩
      rintro v H3 f3 g3 ⟨x, rfl, hx⟩
      exact q' _ H3 f3 g3 ⟨x, hx, .str _⟩
    walk_at "gog"
    refine w_tupL (SqL.of hz) fun pp H4 hpp e4 hl4 => ?_
    have g4 := g3.same e4
    have dps : Dp K H4 (.ref pp) (.tuple (ps.map S)) := .tup (SqT.of hl4) (dp_keepAll (fun _ _ y => same_sqt e4 y) _ _ (names_plain ps) hds)
    have hpl : ps.length ≤ 7 := by omega
    have F4 : Fx l H' H4 := f1.trans (f2.trans (f3.trans (same_fx e4)))
    have hM4 : H4 M = some (.lst [.int A, .int B, .int C]) := F4 _ _ nM (F _ _ nM hM9)
    clear hM1 hds hz hD f3 g3 e4 hl4 f2 g2 f1 g1 hpp
    walk_at "gog"
    refine ⟨l, a, 3, rfl, rfl, by decide, g4, ?_⟩
    rintro vb H5 f5 g5 ⟨b, hb1, hb2, hb3⟩
    have hM5 := f5 _ _ nM hM4
    have fin : ∀ (D : Ends) (vb' : V) (b' : List Sm) (H6 : Hp), D.nx = (fun σ H' => ∃ (w3 w6 w7 w8 w9 : Option V) (ys : List V) (prs : List Pr), σ = [some (.ref l), some (.ref a), some (.ref M), w3, some (.ref pg), some (.ref L), w6, w7, w8, w9] ∧ Fx l H9 H' ∧ Stt H' l ∧ H' L = some (.lst ys) ∧ DpAll K H' ys (prs.map Pr.da) ∧ prs.length = i + 1 ∧ ∀ q ∈ prs, Pr.ok q) →
        Fx l H5 H6 → Gs K H6 l a → b'.length ≤ 52 → (∀ s ∈ b', s.ok 3) → Dp K H6 vb' (.tuple (Sm.das b')) →
        (tDrop (tBM K "list" rAppend (tVar 5) (tCons (tTup (tCons (tVar 6) (tCons (tVar 7) (tCons (tVar 8) tNil)))) tNil)))
        D [some (.ref l), some (.ref a), some (.ref M), some (.int (i : Int)), some (.ref pg), some (.ref L), some (.str (mk x)), some (.ref pp), some vb', w9] H6 := by
      intro D vb' b' H6 hD f6 g6 l6 k6 d6
      have hy6 : H6 L = some (.lst ys) := f6 _ _ nL (f5 _ _ nL (F4 _ _ nL hy))
      walk_at "gog"
      rename_i pt H7 hpt e7 hl7
      have hy7 := e7 _ _ hy6
      have F7 : Fx l H' H7 := F4.trans (f5.trans (f6.trans (same_fx e7)))
      have lb := dpall_len hd
      rw [List.length_map] at lb
      refine w_append hy7 (by omega) ?_
      have k8 : Fx L H7 (upd H7 L (.lst (ys ++ [.ref pt]))) := fx_upd
      have n8 : NoTup H7 L := noTup_lst hy7
      rw [hD]
      refine ⟨_, _, _, _, _, _, prs ++ [⟨x, ps, b'⟩], rfl, fx_mut (F.trans F7) hL, ?_, upd_same, ?_, by rw [List.length_append, hb]; rfl, ?_⟩
      · obtain ⟨⟨j0, j1, j2, j3, hl4, z⟩, _⟩ := g6.same e7
        exact ⟨j0, j1, j2, j3, by rw [upd_ne nL.symm]; exact hl4, z⟩
      · rw [List.map_append]
        refine dpall_snoc (dp_keepAll (fun _ _ y => k8.sqt n8 (F7.sqt S'.noTup y)) _ _ (prs_plain prs) hd) (dp_keep (fun _ _ y => k8.sqt n8 y) _ _ (pr_plain _) ?_)
        have a1 : Dp K H7 (.ref pp) (.tuple (ps.map S)) := dp_fx (f5.trans (f6.trans (same_fx e7))) g4.noTup (names_plain ps) dps
        have a2 : Dp K H7 vb' (.tuple (Sm.das b')) := dp_same e7 (sms_plain b') d6
        exact .tup (SqT.of hl7) (.cons (.str _) (.cons a1 (.cons a2 .nil)))
      · intro z hz
        rcases List.mem_append.mp hz with hz | hz
        · exact hk' z hz
        · rw [List.mem_singleton.mp hz]
          exact ⟨hx, hpl, hk2, l6, k6⟩
    walk_at "gog"
    refine w_dec (fun hc => ?_) (fun hc => ?_)
    · walk_at "gog"
      refine w_dec (fun hc2 => ?_) (fun hc2 => ?_)
      · walk_at "gog"
        rename_i q1 H6 hq1 e6 hl6 q2 H7 hq2 e7 hl7
        have g6 := g5.same e6
        have g7 := g6.same e7
        refine ⟨l, a, 50, rfl, by decide, by decide, g7, ?_⟩
        rintro v8 H8 f8 g8 ⟨r8, rfl, hr8⟩
        have t1 : SqT K H8 q1 [.str (mk kAsk), .str (mk x)] := f8.sqt g7.noTup (same_sqt e7 (SqT.of hl6))
        have t2 : SqT K H8 q2 [.ref q1] := f8.sqt g7.noTup (SqT.of hl7)
        refine w_repA t2 (by omega) fun z H9' e9 t3 => ?_
        have da1 : Dp K H9' (.ref q1) (Sm.ask x).da := by
          simp only [Sm.da]
          exact .tup (same_sqt e9 t1) (.cons (.str _) (.cons (.str _) .nil))
        have g9 := g8.same e9
        have F59 : Fx l H5 H9' := (same_fx e6).trans ((same_fx e7).trans (f8.trans (same_fx e9)))
        have db : Dp K H9' vb (.tuple (Sm.das b)) := dp_fx F59 g5.noTup (sms_plain b) hb3
        obtain ⟨bb, bs, rfl, hbb, hbs⟩ := dp_tup db
        have lb := dpall_len hbs
        rw [das_map, List.length_map] at lb
        refine w_catA hbb t3 (by rw [List.length_replicate]; omega) fun y HA eA tA => ?_
        refine fin _ _ (b ++ List.replicate r8 (.ask x)) HA rfl (F59.trans (same_fx eA)) (g9.same eA) (by rw [List.length_append, List.length_replicate]; omega) ?_ ?_
        · intro s hs
          rcases List.mem_append.mp hs with hs | hs
          · exact hb2 s hs
          · rw [List.eq_of_mem_replicate hs]
            exact okS_ask hx
        · refine .tup tA ?_
          have e2 : Sm.das (b ++ List.replicate r8 (.ask x)) = Sm.das b ++ Sm.das (List.replicate r8 (.ask x)) := by
            rw [das_map, das_map, das_map, List.map_append]
          have pl2 := das_plain (List.replicate r8 (.ask x))
          rw [e2]
          exact dpall_app (dp_keepAll (fun _ _ y => same_sqt eA y) _ _ (das_plain b) hbs) (dp_keepAll (fun _ _ y => same_sqt eA y) _ _ pl2 (dpall_rep da1 r8))
      · exact fin _ _ b H5 rfl (Fx.refl _) g5 (by omega) hb2 hb3
    · exact fin _ _ b H5 rfl (Fx.refl _) g5 (by omega) hb2 hb3
  · subst hσ
    walk_at "gog"
    refine w_tupL (SqL.of hy) fun z H3 hz e3 hl3 => ?_
    walk_at "gog"
    rename_i pz H4 hpz e4 hl4
    have k4 : Same H' H4 := e3.trans e4
    have a1 : Dp K H4 (.ref pg) (.tuple (gs.map S)) := dp_fx (F.trans (same_fx k4)) S9.noTup (names_plain gs) d9
    have a2 : Dp K H4 (.ref z) (.tuple (prs.map Pr.da)) := .tup (SqT.of (e4 _ _ hl3)) (dp_keepAll (fun _ _ y => same_sqt k4 y) _ _ (prs_plain prs) hd)
    exact q _ H4 (F9.trans (F.trans (same_fx k4))) (Gs.same ⟨S', ns, C9.fx F⟩ k4) ⟨⟨gs, prs⟩, ⟨hgl, hk, by show prs.length ≤ 10; omega, hk'⟩, .tup (SqT.of hl4) (.cons a1 (.cons a2 .nil))⟩
end Cc
namespace Cc
/-! ### the written text falls into the words -/
theorem signAt_of {x r : Tx} (i : Nat) (h : signs[i]? = some x) (no : ∀ s ∈ signs.take i, (x ++ r).take s.length ≠ s) : SignAt x (x ++ r) := by
  refine ⟨i, h, by rw [List.take_left], fun j s hj hs => no s ?_⟩
  rw [List.mem_iff_getElem?]
  exact ⟨j, by rw [List.getElem?_take, if_pos hj]; exact hs⟩
theorem sign_one {c : Nat} {r : Tx} (hc : c ∈ ([40, 41, 123, 125, 91, 93, 44, 59, 43, 45, 42, 47] : Tx)) : SignAt [c] ([c] ++ r) := by
  simp only [List.mem_cons, List.not_mem_nil, or_false] at hc
  rcases hc with rfl | rfl | rfl | rfl | rfl | rfl | rfl | rfl | rfl | rfl | rfl | rfl
  · exact signAt_of 3 rfl (by simp [signs])
  · exact signAt_of 4 rfl (by simp [signs])
  · exact signAt_of 5 rfl (by simp [signs])
  · exact signAt_of 6 rfl (by simp [signs])
  · exact signAt_of 7 rfl (by simp [signs])
  · exact signAt_of 8 rfl (by simp [signs])
  · exact signAt_of 9 rfl (by simp [signs])
  · exact signAt_of 10 rfl (by simp [signs])
  · exact signAt_of 13 rfl (by simp [signs])
  · exact signAt_of 14 rfl (by simp [signs])
  · exact signAt_of 15 rfl (by simp [signs])
  · exact signAt_of 16 rfl (by simp [signs])
theorem sign_eq {r : Tx} : SignAt sEq (sEq ++ 32 :: r) := signAt_of 11 rfl (by simp [signs])
theorem sign_rl {g : Rl} {r : Tx} : SignAt g.tx (g.tx ++ 32 :: r) := by
  cases g
  · exact signAt_of 12 rfl (by simp [signs, Rl.tx])
  · exact signAt_of 2 rfl (by simp [signs, Rl.tx])
  · exact signAt_of 0 rfl (by simp [signs, Rl.tx])
  · exact signAt_of 1 rfl (by simp [signs, Rl.tx])
theorem nohd_cons {f : Nat → Bool} {c : Nat} {r : Tx} (h : f c = false) : NoHd f (c :: r) := fun d r' e => by
  injection e with e1 e2
  subst e1
  exact h
theorem nohd_dig {r : Tx} (h : NoHd isWc r) : NoHd isDig r := fun c r' e => by
  have := h c r' e
  unfold isWc at this
  simp only [Bool.or_eq_false_iff] at this
  exact this.1.2
theorem name_word {x : Tx} (h : nameOk x = true) : wordOk x = true := by
  unfold nameOk at h
  exact (Bool.and_eq_true_iff.mp h).1
section
variable {r : Tx} {ts : List Tk}
theorem lex_s {c : Nat} (hc : c ∈ ([40, 41, 123, 125, 91, 93, 44, 59, 43, 45, 42, 47] : Tx)) (h : Lex r ts) : Lex (c :: r) (.s [c] :: ts) := Lex.tok (k := .s [c]) (sign_one hc) h
theorem lex_w {x : Tx} (hx : wordOk x = true) (hn : NoHd isWc r) (h : Lex r ts) : Lex (x ++ r) (.w x :: ts) := Lex.tok (k := .w x) ⟨hx, hn⟩ h
theorem lex_wb {x : Tx} (hx : wordOk x = true) (h : Lex r ts) : Lex (x ++ (32 :: r)) (.w x :: ts) := lex_w hx (nohd_cons rfl) (.sp h)
theorem lex_ex : ∀ (e : Ex) (n : Nat), e.ok n → ∀ (r : Tx) (ts : List Tk), NoHd isWc r → Lex r ts → Lex (e.tx ++ r) (e.tk ++ ts)
  | .num i, n, h, r, ts, hn, hl => by
    have h1 : -10000 ≤ i ∧ i ≤ 10000 := by cases n <;> exact h
    have b1 : Lex (dec i.natAbs ++ r) (.n i.natAbs :: ts) := Lex.tok (k := .n i.natAbs) ⟨by omega, nohd_dig hn⟩ hl
    show Lex (decI i ++ r) (numTk i ++ ts)
    unfold decI numTk
    by_cases hi : i < 0
    · rw [if_pos hi, if_pos hi]
      exact lex_s (by decide) b1
    · rw [if_neg hi, if_neg hi]
      exact b1
  | .name x, n, h, r, ts, hn, hl => by
    have h1 : nameOk x = true := by cases n <;> exact h
    exact lex_w (name_word h1) hn hl
  | .op _ _ _, 0, h, _, _, _, _ => h.elim
  | .op g a b, n + 1, h, r, ts, hn, hl => by
    have e1 : Lex (sRp ++ r) (.s sRp :: ts) := lex_s (by decide) hl
    have e2 := lex_ex b n h.2 _ _ (nohd_cons rfl) e1
    have e3 : Lex (g.tx ++ (32 :: (b.tx ++ (sRp ++ r)))) (g.tk :: (b.tk ++ .s sRp :: ts)) := by
      cases g with
      | mod => exact lex_wb (by decide) e2
      | add => exact lex_s (by decide) (.sp e2)
      | sub => exact lex_s (by decide) (.sp e2)
      | mul => exact lex_s (by decide) (.sp e2)
      | div => exact lex_s (by decide) (.sp e2)
    have e4 := lex_ex a n h.1 _ _ (nohd_cons (c := 32) rfl) (.sp e3)
    have e5 : Lex (sLp ++ _) (.s sLp :: _) := lex_s (by decide) e4
    simpa [Ex.tx, Ex.tk] using e5
theorem lex_co : ∀ (c : Co) (n : Nat), c.ok n → ∀ (r : Tx) (ts : List Tk), NoHd isWc r → Lex r ts → Lex (c.tx ++ r) (c.tk ++ ts)
  | .cmp g a b, n, h, r, ts, hn, hl => by
    have h1 : a.ok 1 ∧ b.ok 1 := by cases n <;> exact h
    have e2 := lex_ex b 1 h1.2 _ _ hn hl
    have e3 : Lex (g.tx ++ (32 :: (b.tx ++ r))) (.s g.tx :: (b.tk ++ ts)) := Lex.tok (k := .s g.tx) sign_rl (.sp e2)
    have e4 := lex_ex a 1 h1.1 _ _ (nohd_cons (c := 32) rfl) (.sp e3)
    simpa [Co.tx, Co.tk] using e4
  | .not _, 0, h, _, _, _, _ => h.elim
  | .not c, n + 1, h, r, ts, hn, hl => by
    have e2 := lex_co c n h _ _ hn hl
    have e3 : Lex (kNot ++ (32 :: (c.tx ++ r))) (.w kNot :: (c.tk ++ ts)) := lex_wb (by decide) e2
    simpa [Co.tx, Co.tk] using e3
  | .bin _ _ _, 0, h, _, _, _, _ => h.elim
  | .bin k a b, n + 1, h, r, ts, hn, hl => by
    have e1 : Lex (sRs ++ r) (.s sRs :: ts) := lex_s (by decide) hl
    have e2 := lex_co b n h.2 _ _ (nohd_cons rfl) e1
    have e3 : Lex (andOr k ++ (32 :: (b.tx ++ (sRs ++ r)))) (.w (andOr k) :: (b.tk ++ .s sRs :: ts)) := lex_wb (by cases k <;> decide) e2
    have e4 := lex_co a n h.1 _ _ (nohd_cons (c := 32) rfl) (.sp e3)
    have e5 : Lex (sLs ++ _) (.s sLs :: _) := lex_s (by decide) e4
    simpa [Co.tx, Co.tk] using e5
/-- lists, commas between -/
def Lx (x : Tx) (k : List Tk) : Prop := ∀ (r : Tx) (ts : List Tk), NoHd isWc r → Lex r ts → Lex (x ++ r) (k ++ ts)
theorem lex_cj {α : Type} (tx : α → Tx) (tk : α → List Tk) : ∀ zs : List α, (∀ z ∈ zs, Lx (tx z) (tk z)) → Lx (cjoin (zs.map tx)) (commas (zs.map tk))
  | [], _ => fun r ts _ h => h
  | [x], h => h x List.mem_cons_self
  | x :: y :: l, h => fun r ts hn hl => by
    have e1 := lex_cj tx tk (y :: l) (fun z hz => h z (List.mem_cons_of_mem _ hz)) r ts hn hl
    have e2 : Lex (44 :: 32 :: (cjoin ((y :: l).map tx) ++ r)) (.s sCm :: (commas ((y :: l).map tk) ++ ts)) := lex_s (by decide) (.sp e1)
    have e3 := h x List.mem_cons_self _ _ (nohd_cons (c := 44) rfl) e2
    simpa [cjoin, commas] using e3
def Bl (ind : Tx) : Prop := ∀ c ∈ ind, c = 32
theorem lex_ind : ∀ (ind : Tx), Bl ind → ∀ {r : Tx} {ts : List Tk}, Lex r ts → Lex (ind ++ r) ts
  | [], _, _, _, h => h
  | c :: l, hb, r, ts, h => by
    have := hb c List.mem_cons_self
    subst this
    exact .sp (lex_ind l (fun d hd => hb d (List.mem_cons_of_mem _ hd)) h)
theorem bl_four {ind : Tx} (h : Bl ind) : Bl (ind ++ four) := fun c hc => by
  rcases List.mem_append.mp hc with hc | hc
  · exact h c hc
  · simp [four] at hc
    exact hc
theorem unl_cons (x : Tx) (ls : List Tx) : unlines (x :: ls) = x ++ 10 :: unlines ls := by
  simp [unlines]
theorem unl_nil : unlines [] = [] := rfl
theorem unl_app (a b : List Tx) : unlines (a ++ b) = unlines a ++ unlines b := by
  simp [unlines]
/-- a simple statement and its end -/
theorem lex_semi {r : Tx} {ts : List Tk} (h : Lex r ts) : Lex (59 :: 10 :: r) (.s sSc :: ts) := lex_s (by decide) (.nl h)
theorem lex_names {ps : List Tx} (h : ∀ x ∈ ps, nameOk x = true) : Lx (cjoin ps) (psTk ps) := by
  have := lex_cj (fun x : Tx => x) (fun x : Tx => [Tk.w x]) ps (fun z hz r ts hn hl => lex_w (name_word (h z hz)) hn hl)
  rw [List.map_id'] at this
  exact this
end
mutual
theorem lex_sm : ∀ (s : Sm) (n : Nat), s.ok n → ∀ (ind : Tx), Bl ind → ∀ (r : Tx) (ts : List Tk), Lex r ts → Lex (unlines (s.lines ind) ++ r) (s.tk ++ ts)
  | .set x e, n, h, ind, hb, r, ts, hl => by
    obtain ⟨h1, h2⟩ := sm_set h
    have e1 := lex_ex e 3 h2 _ _ (nohd_cons (c := 59) rfl) (lex_semi hl)
    have e2 : Lex (x ++ 32 :: (sEq ++ 32 :: _)) (.w x :: .s sEq :: _) := lex_wb (name_word h1) (Lex.tok (k := .s sEq) sign_eq (.sp e1))
    have e3 := lex_ind ind hb e2
    simpa [Sm.lines, Sm.simple, Sm.tk, unl_cons, unl_nil] using e3
  | .ask x, n, h, ind, hb, r, ts, hl => by
    have h1 := sm_ask h
    have e2 : Lex (kAsk ++ 32 :: (x ++ _)) (.w kAsk :: .w x :: _) := lex_wb (by decide) (lex_w (name_word h1) (nohd_cons (c := 59) rfl) (lex_semi hl))
    have e3 := lex_ind ind hb e2
    simpa [Sm.lines, Sm.simple, Sm.tk, unl_cons, unl_nil] using e3
  | .tell k e, n, h, ind, hb, r, ts, hl => by
    have h2 := sm_tell h
    have e1 := lex_ex e 3 h2 _ _ (nohd_cons (c := 59) rfl) (lex_semi hl)
    have e2 : Lex (tellRet k ++ 32 :: _) (.w (tellRet k) :: _) := lex_wb (by cases k <;> decide) e1
    have e3 := lex_ind ind hb e2
    simpa [Sm.lines, Sm.simple, Sm.tk, unl_cons, unl_nil] using e3
  | .chk k c, n, h, ind, hb, r, ts, hl => by
    have h2 := sm_chk h
    have e1 := lex_co c 2 h2 _ _ (nohd_cons (c := 59) rfl) (lex_semi hl)
    have e2 : Lex (chkNeed k ++ 32 :: _) (.w (chkNeed k) :: _) := lex_wb (by cases k <;> decide) e1
    have e3 := lex_ind ind hb e2
    simpa [Sm.lines, Sm.simple, Sm.tk, unl_cons, unl_nil] using e3
  | .call f es t, n, h, ind, hb, r, ts, hl => by
    obtain ⟨h1, h2, h3, h4⟩ := sm_call h
    have e0 : Lex (toTx t ++ 59 :: 10 :: r) (toTk t ++ .s sSc :: ts) := by
      cases t with
      | none => exact lex_semi hl
      | some y =>
        have := lex_wb (x := kTo) (by decide) (lex_w (name_word (h4 y rfl)) (nohd_cons (c := 59) rfl) (lex_semi hl))
        have e := Lex.sp this
        simpa [toTx, toTk] using e
    have e1 : Lex (sRp ++ _) (.s sRp :: _) := lex_s (by decide) e0
    have e2 := lex_cj Ex.tx Ex.tk es (fun z hz r ts hn hl => lex_ex z 1 (h3 z hz) r ts hn hl) _ _ (nohd_cons (c := 41) rfl) e1
    have e3 : Lex (kCall ++ 32 :: (f ++ 40 :: _)) (.w kCall :: .w f :: .s sLp :: _) := lex_wb (by decide) (lex_w (name_word h1) (nohd_cons (c := 40) rfl) (lex_s (by decide) e2))
    have e4 := lex_ind ind hb e3
    simpa [Sm.lines, Sm.simple, Sm.tk, unl_cons, unl_nil] using e4
  | .ite _ _ _, 0, h, _, _, _, _, _ => by simp only [Sm.ok] at h
  | .whil _ _, 0, h, _, _, _, _, _ => by simp only [Sm.ok] at h
  | .ite c a b, n + 1, h, ind, hb, r, ts, hl => by
    simp only [Sm.ok] at h
    obtain ⟨hc, la, lb, ka, kb⟩ := h
    have e0 : Lex (ind ++ 125 :: 10 :: r) (.s sRb :: ts) := lex_ind ind hb (lex_s (by decide) (.nl hl))
    have e1 : Lex (unlines (if b.isEmpty then [] else (ind ++ [125, 32] ++ kElse ++ [32, 123]) :: Sm.liness b (ind ++ four)) ++ (ind ++ 125 :: 10 :: r))
        ((if b.isEmpty then [.s sRb] else .s sRb :: .w kElse :: .s sLb :: (Sm.tks b ++ [.s sRb])) ++ ts) := by
      cases b with
      | nil => exact e0
      | cons s0 b' =>
        have f1 := lex_sms (s0 :: b') n kb (ind ++ four) (bl_four hb) _ _ e0
        have f2 : Lex (kElse ++ 32 :: (123 :: 10 :: _)) (.w kElse :: .s sLb :: _) := lex_wb (by decide) (lex_s (by decide) (.nl f1))
        have f3 : Lex (125 :: 32 :: _) (.s sRb :: _) := lex_s (by decide) (.sp f2)
        have f4 := lex_ind ind hb f3
        simpa [unl_cons, unl_nil] using f4
    have e2 := lex_sms a n ka (ind ++ four) (bl_four hb) _ _ e1
    have e3 : Lex (32 :: 123 :: 10 :: _) (.s sLb :: _) := .sp (lex_s (by decide) (.nl e2))
    have e4 := lex_co c 2 hc _ _ (nohd_cons (c := 32) rfl) e3
    have e5 : Lex (kIf ++ 32 :: _) (.w kIf :: _) := lex_wb (by decide) e4
    have e6 := lex_ind ind hb e5
    cases b with
    | nil => simpa [Sm.lines, Sm.tk, unl_cons, unl_nil, unl_app] using e6
    | cons s0 b' => simpa [Sm.lines, Sm.tk, unl_cons, unl_nil, unl_app] using e6
  | .whil c a, n + 1, h, ind, hb, r, ts, hl => by
    simp only [Sm.ok] at h
    obtain ⟨hc, la, ka⟩ := h
    have e0 : Lex (ind ++ 125 :: 10 :: r) (.s sRb :: ts) := lex_ind ind hb (lex_s (by decide) (.nl hl))
    have e2 := lex_sms a n ka (ind ++ four) (bl_four hb) _ _ e0
    have e3 : Lex (32 :: 123 :: 10 :: _) (.s sLb :: _) := .sp (lex_s (by decide) (.nl e2))
    have e4 := lex_co c 2 hc _ _ (nohd_cons (c := 32) rfl) e3
    have e5 : Lex (kWhile ++ 32 :: _) (.w kWhile :: _) := lex_wb (by decide) e4
    have e6 := lex_ind ind hb e5
    simpa [Sm.lines, Sm.tk, unl_cons, unl_nil, unl_app] using e6
theorem lex_sms : ∀ (b : List Sm) (n : Nat), (∀ s ∈ b, s.ok n) → ∀ (ind : Tx), Bl ind → ∀ (r : Tx) (ts : List Tk), Lex r ts → Lex (unlines (Sm.liness b ind) ++ r) (Sm.tks b ++ ts)
  | [], _, _, _, _, _, _, hl => by
    simp only [Sm.liness, Sm.tks]
    exact hl
  | s :: b, n, h, ind, hb, r, ts, hl => by
    have e1 := lex_sms b n (fun z hz => h z (List.mem_cons_of_mem _ hz)) ind hb r ts hl
    have e2 := lex_sm s n (h s List.mem_cons_self) ind hb _ _ e1
    simpa [Sm.liness, Sm.tks, unl_app] using e2
end
theorem lex_pr (p : Pr) (h : p.ok) (r : Tx) (ts : List Tk) (hl : Lex r ts) : Lex (unlines p.lines ++ r) (p.tk ++ ts) := by
  obtain ⟨h1, h2, h3, h4, h5⟩ := h
  have e0 : Lex (125 :: 10 :: r) (.s sRb :: ts) := lex_s (by decide) (.nl hl)
  have e1 := lex_sms p.body 3 h5 four (by intro c hc; simp [four] at hc; exact hc) _ _ e0
  have e2 : Lex (41 :: 32 :: 123 :: 10 :: _) (.s sRp :: .s sLb :: _) := lex_s (by decide) (.sp (lex_s (by decide) (.nl e1)))
  have e3 := lex_names h3 _ _ (nohd_cons (c := 41) rfl) e2
  have e4 : Lex (kProc ++ 32 :: (p.name ++ 40 :: _)) (.w kProc :: .w p.name :: .s sLp :: _) := lex_wb (by decide) (lex_w (name_word h1) (nohd_cons (c := 40) rfl) (lex_s (by decide) e3))
  simpa [Pr.lines, Pr.tk, unl_cons, unl_nil, unl_app] using e4
theorem lex_prs : ∀ (ps : List Pr), (∀ p ∈ ps, p.ok) → Lex (unlines (ps.flatMap Pr.lines)) (prsTk ps)
  | [], _ => .nil
  | p :: r, h => by
    have e1 := lex_prs r fun z hz => h z (List.mem_cons_of_mem _ hz)
    have e2 := lex_pr p (h p List.mem_cons_self) _ _ e1
    simpa [prsTk, unl_app] using e2
theorem lex_gs : ∀ (gs : List Tx), (∀ x ∈ gs, nameOk x = true) → ∀ (r : Tx) (ts : List Tk), Lex r ts → Lex (unlines (gs.map fun x => kGlobal ++ [32] ++ x ++ [59]) ++ r) (gsTk gs ++ ts)
  | [], _, r, ts, hl => hl
  | x :: l, h, r, ts, hl => by
    have e1 := lex_gs l (fun z hz => h z (List.mem_cons_of_mem _ hz)) r ts hl
    have e2 : Lex (kGlobal ++ 32 :: (x ++ _)) (.w kGlobal :: .w x :: _) := lex_wb (by decide) (lex_w (name_word (h x List.mem_cons_self)) (nohd_cons (c := 59) rfl) (lex_semi e1))
    simpa [gsTk, unl_cons] using e2
/-- the law of the lexer's side -/
theorem lex_pg {p : Pg} (h : p.ok) : Lex p.tx p.tk := by
  obtain ⟨_, h1, _, h2⟩ := h
  have := lex_gs p.gs h1 _ _ (lex_prs p.prs h2)
  unfold Pg.tx Pg.tk Pg.lines
  rw [unl_app]
  exact this
end Cc
namespace Cc
/-! ### the written text is the one that the law lays out -/
def closer (w : Tx) : Bool := [sSc, sCm, sRp, sRs].contains w
theorem name_cons {x : Tx} (h : nameOk x = true) : ∃ c r, x = c :: r ∧ isLet c = true ∧ x ∉ resv := by
  unfold nameOk wordOk at h
  simp only [Bool.and_eq_true, Bool.not_eq_true', decide_eq_true_eq] at h
  obtain ⟨⟨⟨h1, _⟩, _⟩, h2⟩ := h
  cases x with
  | nil => cases h1
  | cons c r =>
    refine ⟨c, r, rfl, h1, ?_⟩
    rw [List.contains_eq_mem, decide_eq_false_iff_not] at h2
    exact h2
theorem dec_cons (n : Nat) : ∃ c r, dec n = c :: r ∧ isDig c = true := by
  cases e : dec n with
  | nil => exact absurd e (dec_ne n)
  | cons c r => exact ⟨c, r, rfl, dec_dig n c (by rw [e]; exact List.mem_cons_self)⟩
theorem let_ne {c d : Nat} (h : isLet c = true) (hd : isLet d = false) : c ≠ d := fun e => by
  subst e
  rw [h] at hd
  cases hd
theorem dig_ne {c d : Nat} (h : isDig c = true) (hd : isDig d = false) : c ≠ d := fun e => by
  subst e
  rw [h] at hd
  cases hd
/-- a word that is none of the signs that the gaps ask for -/
structure Pl (w : Tx) : Prop where
  cl : closer w = false
  lp : w ≠ sLp
theorem closer_hd {c : Nat} {r : Tx} (h : c ≠ 59 ∧ c ≠ 44 ∧ c ≠ 41 ∧ c ≠ 93) : closer (c :: r) = false := by
  unfold closer
  rw [List.contains_eq_mem, decide_eq_false_iff_not]
  intro hm
  simp only [List.mem_cons, List.not_mem_nil, or_false, List.cons.injEq] at hm
  rcases hm with h1 | h1 | h1 | h1
  · exact h.1 h1.1
  · exact h.2.1 h1.1
  · exact h.2.2.1 h1.1
  · exact h.2.2.2 h1.1
theorem pl_name {x : Tx} (h : nameOk x = true) : Pl x := by
  obtain ⟨c, r, rfl, h1, _⟩ := name_cons h
  exact ⟨closer_hd ⟨let_ne h1 (by decide), let_ne h1 (by decide), let_ne h1 (by decide), let_ne h1 (by decide)⟩, fun e => by
    injection e with e1 e2
    exact let_ne h1 (d := 40) (by decide) e1⟩
theorem pl_dec (n : Nat) : Pl (dec n) := by
  obtain ⟨c, r, e, h1⟩ := dec_cons n
  rw [e]
  exact ⟨closer_hd ⟨dig_ne h1 (by decide), dig_ne h1 (by decide), dig_ne h1 (by decide), dig_ne h1 (by decide)⟩, fun e => by
    injection e with e1 e2
    exact dig_ne h1 (d := 40) (by decide) e1⟩
theorem lsign_name {x : Tx} (h : nameOk x = true) : lsign x = false := by
  obtain ⟨c, r, rfl, h1, h2⟩ := name_cons h
  unfold lsign
  rw [if_neg (fun e => by
    injection e with e1 e2
    exact let_ne h1 (d := 41) (by decide) e1)]
  have e1 : hdS (c :: r) = true := by
    show decide (c ∈ g_LETTERS ++ g_DIGITS) = true
    rw [decide_eq_true_eq, List.mem_append]
    exact .inl ((isLet_iff c).mpr h1)
  rw [e1, List.contains_eq_mem, decide_eq_false h2, decide_eq_false (by simp)] <;> rfl
theorem resv_let : ∀ x ∈ resv, ∃ c r, x = c :: r ∧ isLet c = true := by
  intro x hx
  simp only [resv, List.mem_cons, List.not_mem_nil, or_false] at hx
  rcases hx with rfl | rfl | rfl | rfl | rfl | rfl | rfl | rfl | rfl | rfl | rfl | rfl | rfl | rfl | rfl | rfl <;> exact ⟨_, _, rfl, by decide⟩
theorem lsign_dec (n : Nat) : lsign (dec n) = false := by
  obtain ⟨c, r, e, h1⟩ := dec_cons n
  rw [e]
  unfold lsign
  rw [if_neg (fun e => by
    injection e with e1 e2
    exact dig_ne h1 (d := 41) (by decide) e1)]
  have e1 : hdS (c :: r) = true := by
    show decide (c ∈ g_LETTERS ++ g_DIGITS) = true
    rw [decide_eq_true_eq, List.mem_append]
    exact .inr ((isDig_iff c).mpr h1)
  have h2 : c :: r ∉ resv := fun hm => by
    obtain ⟨d, r', e', hd⟩ := resv_let _ hm
    injection e' with e1 e2
    subst e1
    unfold isLet at hd
    unfold isDig at h1
    simp only [Bool.and_eq_true, decide_eq_true_eq] at hd h1
    omega
  rw [e1, List.contains_eq_mem, decide_eq_false h2, decide_eq_false (by simp)] <;> rfl
/-! gaps -/
def En (f : Tx) : Prop := f ≠ sLp ∧ f ≠ sLs ∧ f ≠ sMi ∧ f ≠ kProc ∧ f ≠ kCall
theorem en_of {f : Tx} (h : lsign f = false) : En f := by
  refine ⟨?_, ?_, ?_, ?_, ?_⟩ <;> (intro e; subst e; revert h; decide)
theorem opens_no {f : Tx} (h1 : f ≠ sLp) (h2 : f ≠ sLs) : ¬ [sLp, sLs].contains f = true := by
  rw [List.contains_eq_mem, decide_eq_true_eq]
  intro hm
  simp only [List.mem_cons, List.not_mem_nil, or_false] at hm
  rcases hm with h | h
  · exact h1 h
  · exact h2 h
theorem gap_close {a b c : Tx} (h : closer c = true) : lgap a b c = false := by
  unfold lgap
  rw [if_pos (Or.inl (show [sSc, sCm, sRp, sRs].contains c = true from h))]
theorem gap_open {a b c : Tx} (h : b = sLp ∨ b = sLs) : lgap a b c = false := by
  unfold lgap
  rw [if_pos (Or.inr (by rcases h with rfl | rfl <;> decide))]
theorem gap_yes {a b c : Tx} (hb : b ≠ sLp) (hb2 : b ≠ sLs) (hb3 : b = sMi → lsign a = false) (hc : closer c = false) (hc2 : c = sLp → a ≠ kProc ∧ a ≠ kCall) : lgap a b c = true := by
  unfold lgap
  rw [if_neg (by
    rintro (h | h)
    · exact absurd (hc.symm.trans h) (by decide)
    · exact opens_no hb hb2 h)]
  rw [if_neg (by
    rintro ⟨h1, h2⟩
    obtain ⟨n1, n2⟩ := hc2 h1
    rw [List.contains_eq_mem, decide_eq_true_eq] at h2
    simp only [List.mem_cons, List.not_mem_nil, or_false] at h2
    rcases h2 with h | h
    · exact n1 h
    · exact n2 h)]
  by_cases hm : b = sMi
  · rw [hb3 hm] <;> simp
  · rw [decide_eq_false hm] <;> rfl
theorem gap_after {a b c : Tx} (hb : En b) (hc : Pl c) : lgap a b c = true := gap_yes hb.1 hb.2.1 (fun e => absurd e hb.2.2.1) hc.cl (fun e => absurd e hc.lp)
theorem ln_step (b f w : Tx) (r : List Tx) : lnGo b f (w :: r) = (if lgap b f w = true then [32] else []) ++ (w ++ lnGo f w r) := by
  rw [← List.append_assoc] <;> rfl
theorem ln_close {b f w : Tx} {r : List Tx} (h : closer w = true) : lnGo b f (w :: r) = w ++ lnGo f w r := by
  rw [ln_step, gap_close h] <;> rfl
theorem ln_open {b f w : Tx} {r : List Tx} (h : f = sLp ∨ f = sLs) : lnGo b f (w :: r) = w ++ lnGo f w r := by
  rw [ln_step, gap_open h] <;> rfl
theorem ln_after {b f w : Tx} {r : List Tx} (hb : En f) (hc : Pl w) : lnGo b f (w :: r) = 32 :: (w ++ lnGo f w r) := by
  rw [ln_step, gap_after hb hc] <;> rfl
/-- what may stand ahead of an expression -/
structure St (b f : Tx) : Prop where
  sg : lsign f = true
  mi : f = sMi → lsign b = false
  b1 : b ≠ kProc
  b2 : b ≠ kCall
  f1 : f ≠ kProc
  f2 : f ≠ kCall
def gp (f : Tx) : Tx := if f = sLp ∨ f = sLs then [] else [32]
theorem ln_first {b f w : Tx} {r : List Tx} (h : St b f) (hw : closer w = false) : lnGo b f (w :: r) = gp f ++ (w ++ lnGo f w r) := by
  unfold gp
  by_cases ho : f = sLp ∨ f = sLs
  · rw [ln_open ho, if_pos ho] <;> rfl
  · rw [ln_step, if_neg ho, gap_yes (fun e => ho (.inl e)) (fun e => ho (.inr e)) h.mi hw (fun _ => ⟨h.b1, h.b2⟩)] <;> rfl
theorem st_lp {b f : Tx} (h : f ≠ kProc) (h2 : f ≠ kCall) : St f sLp := ⟨by decide, fun e => absurd e (by decide), h, h2, by decide, by decide⟩
theorem ln_ex : ∀ (e : Ex) (n : Nat), e.ok n → ∀ (b f : Tx), St b f → ∃ b' f', lsign f' = false ∧ ∀ r, lnGo b f (Wd e.tk ++ r) = gp f ++ (e.tx ++ lnGo b' f' r)
  | .num i, n, h, b, f, hs => by
    show ∃ b' f', lsign f' = false ∧ ∀ r, lnGo b f (Wd (numTk i) ++ r) = gp f ++ (decI i ++ lnGo b' f' r)
    unfold decI numTk
    by_cases hi : i < 0
    · rw [if_pos hi, if_pos hi]
      refine ⟨sMi, dec i.natAbs, lsign_dec _, fun r => ?_⟩
      show lnGo b f (sMi :: dec i.natAbs :: r) = _
      rw [ln_first hs (by decide), ln_step]
      have g : lgap f sMi (dec i.natAbs) = false := by
        unfold lgap
        have p := pl_dec i.natAbs
        rw [if_neg (by
          rintro (h | h)
          · exact absurd (p.cl.symm.trans h) (by decide)
          · exact absurd h (by decide)), if_neg (fun z => p.lp z.1), hs.sg] <;> rfl
      rw [g] <;> rfl
    · rw [if_neg hi, if_neg hi]
      exact ⟨f, dec i.natAbs, lsign_dec _, fun r => ln_first hs (pl_dec _).cl⟩
  | .name x, n, h, b, f, hs => by
    have h1 : nameOk x = true := by cases n <;> exact h
    exact ⟨f, x, lsign_name h1, fun r => ln_first hs (pl_name h1).cl⟩
  | .op _ _ _, 0, h, _, _, _ => h.elim
  | .op g l r, n + 1, h, b, f, hs => by
    obtain ⟨b1, f1, s1, e1⟩ := ln_ex l n h.1 f sLp (st_lp (b := b) hs.f1 hs.f2)
    have st2 : St f1 g.tx := ⟨by cases g <;> decide, fun _ => s1, (en_of s1).2.2.2.1, (en_of s1).2.2.2.2, by cases g <;> decide, by cases g <;> decide⟩
    obtain ⟨b2, f2, s2, e2⟩ := ln_ex r n h.2 f1 g.tx st2
    refine ⟨f2, sRp, by decide, fun rest => ?_⟩
    have ew : Wd (Ex.op g l r).tk ++ rest = sLp :: (Wd l.tk ++ (g.tx :: (Wd r.tk ++ (sRp :: rest)))) := by
      simp only [Ex.tk, Wd, List.map_cons, List.map_append, List.map_nil, List.cons_append, List.append_assoc, List.nil_append]
      have : g.tk.tx = g.tx := by cases g <;> rfl
      rw [this] <;> rfl
    have hgp : gp g.tx = [32] := by cases g <;> decide
    rw [ew, ln_first hs (by decide), e1, ln_after (en_of s1) ⟨by cases g <;> decide, by cases g <;> decide⟩, e2, ln_close (by decide), hgp]
    simp [Ex.tx, gp]
theorem ln_co : ∀ (c : Co) (n : Nat), c.ok n → ∀ (b f : Tx), St b f → ∃ b' f', En f' ∧ ∀ r, lnGo b f (Wd c.tk ++ r) = gp f ++ (c.tx ++ lnGo b' f' r)
  | .cmp g l r, n, h, b, f, hs => by
    have h1 : l.ok 1 ∧ r.ok 1 := by cases n <;> exact h
    obtain ⟨b1, f1, s1, e1⟩ := ln_ex l 1 h1.1 b f hs
    have st2 : St f1 g.tx := ⟨by cases g <;> decide, fun _ => s1, (en_of s1).2.2.2.1, (en_of s1).2.2.2.2, by cases g <;> decide, by cases g <;> decide⟩
    obtain ⟨b2, f2, s2, e2⟩ := ln_ex r 1 h1.2 f1 g.tx st2
    refine ⟨b2, f2, en_of s2, fun rest => ?_⟩
    have ew : Wd (Co.cmp g l r).tk ++ rest = Wd l.tk ++ (g.tx :: (Wd r.tk ++ rest)) := by
      simp only [Co.tk, Wd, List.map_cons, List.map_append, List.cons_append, List.append_assoc]
      rfl
    have hgp : gp g.tx = [32] := by cases g <;> decide
    rw [ew, e1, ln_after (en_of s1) ⟨by cases g <;> decide, by cases g <;> decide⟩, e2, hgp]
    simp [Co.tx]
  | .not _, 0, h, _, _, _ => h.elim
  | .not c, n + 1, h, b, f, hs => by
    have st2 : St f kNot := ⟨by decide, fun e => absurd e (by decide), hs.f1, hs.f2, by decide, by decide⟩
    obtain ⟨b2, f2, s2, e2⟩ := ln_co c n h f kNot st2
    refine ⟨b2, f2, s2, fun rest => ?_⟩
    show lnGo b f (kNot :: (Wd c.tk ++ rest)) = _
    rw [ln_first hs (by decide), e2, show gp kNot = [32] by decide]
    simp [Co.tx]
  | .bin _ _ _, 0, h, _, _, _ => h.elim
  | .bin k l r, n + 1, h, b, f, hs => by
    have st1 : St f sLs := ⟨by decide, fun e => absurd e (by decide), hs.f1, hs.f2, by decide, by decide⟩
    obtain ⟨b1, f1, s1, e1⟩ := ln_co l n h.1 f sLs st1
    have st2 : St f1 (andOr k) := ⟨by cases k <;> decide, fun e => absurd e (by cases k <;> decide), s1.2.2.2.1, s1.2.2.2.2, by cases k <;> decide, by cases k <;> decide⟩
    obtain ⟨b2, f2, s2, e2⟩ := ln_co r n h.2 f1 (andOr k) st2
    refine ⟨f2, sRs, by refine ⟨?_, ?_, ?_, ?_, ?_⟩ <;> decide, fun rest => ?_⟩
    have ew : Wd (Co.bin k l r).tk ++ rest = sLs :: (Wd l.tk ++ (andOr k :: (Wd r.tk ++ (sRs :: rest)))) := by
      simp only [Co.tk, Wd, List.map_cons, List.map_append, List.map_nil, List.cons_append, List.append_assoc, List.nil_append]
      rfl
    rw [ew, ln_first hs (by decide), e1, ln_after s1 ⟨by cases k <;> decide, by cases k <;> decide⟩, e2, ln_close (by decide), show gp (andOr k) = [32] by cases k <;> decide]
    simp [Co.tx, gp]
end Cc
namespace Cc
theorem st_set {x : Tx} (h : nameOk x = true) : St x sEq := ⟨by decide, fun e => absurd e (by decide), (en_of (lsign_name h)).2.2.2.1, (en_of (lsign_name h)).2.2.2.2, by decide, by decide⟩
theorem wd_cons (k : Tk) (ts : List Tk) : Wd (k :: ts) = k.tx :: Wd ts := rfl
theorem wd_nil : Wd [] = [] := rfl
theorem en_w {x : Tx} (h1 : x ≠ sLp) (h2 : x ≠ sLs) (h3 : x ≠ sMi) (h4 : x ≠ kProc) (h5 : x ≠ kCall) : En x := ⟨h1, h2, h3, h4, h5⟩
/-- lists, commas between: the rest -/
theorem ln_ctl {α : Type} (tx : α → Tx) (tk : α → List Tk) : ∀ (zs : List α),
    (∀ z ∈ zs, ∀ (b f : Tx), St b f → ∃ b' f', lsign f' = false ∧ ∀ r, lnGo b f (Wd (tk z) ++ r) = gp f ++ (tx z ++ lnGo b' f' r)) →
    ∀ (b f : Tx), St b f → ∃ b' f', (zs ≠ [] → lsign f' = false) ∧ (zs = [] → b' = b ∧ f' = f) ∧ ∀ r, lnGo b f (Wd (commas (zs.map tk)) ++ r) = (if zs = [] then [] else gp f) ++ (cjoin (zs.map tx) ++ lnGo b' f' r)
  | [], _, b, f, _ => ⟨b, f, fun h => absurd rfl h, fun _ => ⟨rfl, rfl⟩, fun r => rfl⟩
  | [x], h, b, f, hs => by
    obtain ⟨b', f', s, e⟩ := h x List.mem_cons_self b f hs
    exact ⟨b', f', fun _ => s, fun h => (List.cons_ne_nil _ _ h).elim, fun r => e r⟩
  | x :: y :: l, h, b, f, hs => by
    obtain ⟨b1, f1, s1, e1⟩ := h x List.mem_cons_self b f hs
    have st : St f1 sCm := ⟨by decide, fun e => absurd e (by decide), (en_of s1).2.2.2.1, (en_of s1).2.2.2.2, by decide, by decide⟩
    obtain ⟨b2, f2, s2, _, e2⟩ := ln_ctl tx tk (y :: l) (fun z hz => h z (List.mem_cons_of_mem _ hz)) f1 sCm st
    refine ⟨b2, f2, fun _ => s2 (by simp), fun h => (List.cons_ne_nil _ _ h).elim, fun r => ?_⟩
    have ew : Wd (commas ((x :: y :: l).map tk)) ++ r = Wd (tk x) ++ (sCm :: (Wd (commas ((y :: l).map tk)) ++ r)) := by
      show Wd (tk x ++ .s sCm :: commas ((y :: l).map tk)) ++ r = _
      rw [wd_app, wd_cons, List.append_assoc] <;> rfl
    rw [ew, e1, ln_close (by decide), e2, if_neg (by simp), if_neg (by simp), show gp sCm = [32] by decide]
    show gp f ++ (tx x ++ (sCm ++ ([32] ++ (cjoin ((y :: l).map tx) ++ lnGo b2 f2 r)))) = gp f ++ ((tx x ++ [44, 32] ++ cjoin ((y :: l).map tx)) ++ lnGo b2 f2 r)
    simp
theorem ln_nm {x : Tx} (h : nameOk x = true) (b f : Tx) (hs : St b f) : ∃ b' f', lsign f' = false ∧ ∀ r, lnGo b f (Wd [Tk.w x] ++ r) = gp f ++ (x ++ lnGo b' f' r) :=
  ⟨f, x, lsign_name h, fun r => ln_first hs (pl_name h).cl⟩
/-- the words of a simple statement, but its end -/
def Sm.hd : Sm → List Tx
  | .set x e => x :: sEq :: Wd e.tk
  | .ask x => [kAsk, x]
  | .tell k e => tellRet k :: Wd e.tk
  | .chk k c => chkNeed k :: Wd c.tk
  | .call f es t => kCall :: f :: sLp :: (Wd (commas (es.map Ex.tk)) ++ sRp :: Wd (toTk t))
  | .ite c _ _ => kIf :: Wd c.tk
  | .whil c _ => kWhile :: Wd c.tk
theorem st_w {w : Tx} (h1 : lsign w = true) (h2 : w ≠ sMi) (h3 : w ≠ kProc) (h4 : w ≠ kCall) : St [] w := ⟨h1, fun e => absurd e h2, by decide, by decide, h3, h4⟩
theorem line_set {x : Tx} {e : Ex} (h1 : nameOk x = true) (h2 : e.ok 3) : lineTx (x :: sEq :: Wd e.tk ++ [sSc]) = (Sm.set x e).simple ++ [59] := by
  obtain ⟨b, f, s, eq⟩ := ln_ex e 3 h2 x sEq (st_set h1)
  show x ++ lnGo [] x (sEq :: (Wd e.tk ++ [sSc])) = _
  rw [ln_after (en_of (lsign_name h1)) ⟨by decide, by decide⟩, eq, ln_close (by decide), show gp sEq = [32] by decide]
  simp [Sm.simple, lnGo]
theorem line_ask {x : Tx} (h1 : nameOk x = true) : lineTx ([kAsk, x] ++ [sSc]) = (Sm.ask x).simple ++ [59] := by
  show kAsk ++ lnGo [] kAsk (x :: [sSc]) = _
  rw [ln_after (by refine ⟨?_, ?_, ?_, ?_, ?_⟩ <;> decide) (pl_name h1), ln_close (by decide)]
  simp [Sm.simple, lnGo]
theorem line_tell {k : Bool} {e : Ex} (h2 : e.ok 3) : lineTx (tellRet k :: Wd e.tk ++ [sSc]) = (Sm.tell k e).simple ++ [59] := by
  obtain ⟨b, f, s, eq⟩ := ln_ex e 3 h2 [] (tellRet k) (st_w (by cases k <;> decide) (by cases k <;> decide) (by cases k <;> decide) (by cases k <;> decide))
  show tellRet k ++ lnGo [] (tellRet k) (Wd e.tk ++ [sSc]) = _
  rw [eq, ln_close (by decide), show gp (tellRet k) = [32] by cases k <;> decide]
  simp [Sm.simple, lnGo]
theorem line_co {w : Tx} {c : Co} (h2 : c.ok 2) (h : St [] w) (hg : gp w = [32]) : ∃ b f, En f ∧ ∀ r, lineTx (w :: Wd c.tk ++ r) = w ++ 32 :: (c.tx ++ lnGo b f r) := by
  obtain ⟨b, f, s, eq⟩ := ln_co c 2 h2 [] w h
  refine ⟨b, f, s, fun r => ?_⟩
  show w ++ lnGo [] w (Wd c.tk ++ r) = _
  rw [eq, hg] <;> rfl
theorem line_chk {k : Bool} {c : Co} (h2 : c.ok 2) : lineTx (chkNeed k :: Wd c.tk ++ [sSc]) = (Sm.chk k c).simple ++ [59] := by
  obtain ⟨b, f, s, eq⟩ := line_co (w := chkNeed k) h2 (st_w (by cases k <;> decide) (by cases k <;> decide) (by cases k <;> decide) (by cases k <;> decide)) (by cases k <;> decide)
  rw [eq, ln_close (by decide)]
  simp [Sm.simple, lnGo]
theorem line_hd {w : Tx} {c : Co} (h2 : c.ok 2) (h : St [] w) (hg : gp w = [32]) : lineTx (w :: Wd c.tk ++ [sLb]) = w ++ [32] ++ c.tx ++ [32, 123] := by
  obtain ⟨b, f, s, eq⟩ := line_co h2 h hg
  rw [eq, ln_after s ⟨by decide, by decide⟩]
  simp [lnGo]
theorem line_call {f : Tx} {es : List Ex} {t : Option Tx} (h1 : nameOk f = true) (h3 : ∀ e ∈ es, e.ok 1) (h4 : ∀ x ∈ t, nameOk x = true) :
    lineTx (kCall :: f :: sLp :: (Wd (commas (es.map Ex.tk)) ++ sRp :: Wd (toTk t)) ++ [sSc]) = (Sm.call f es t).simple ++ [59] := by
  have st : St f sLp := st_lp (b := []) (en_of (lsign_name h1)).2.2.2.1 (en_of (lsign_name h1)).2.2.2.2
  obtain ⟨b, g, s1, s2, eq⟩ := ln_ctl Ex.tx Ex.tk es (fun z hz b f hs => ln_ex z 1 (h3 z hz) b f hs) f sLp st
  have ew : kCall :: f :: sLp :: (Wd (commas (es.map Ex.tk)) ++ sRp :: Wd (toTk t)) ++ [sSc] = kCall :: f :: sLp :: (Wd (commas (es.map Ex.tk)) ++ (sRp :: (Wd (toTk t) ++ [sSc]))) := by simp
  rw [ew]
  show kCall ++ lnGo [] kCall (f :: sLp :: _) = _
  have g1 : lgap [] kCall f = true := gap_yes (by decide) (by decide) (fun e => absurd e (by decide)) (pl_name h1).cl (fun e => absurd e (pl_name h1).lp)
  have g2 : lgap kCall f sLp = false := by
    unfold lgap
    rw [if_neg (by
      rintro (h | h)
      · exact absurd h (by decide)
      · exact opens_no (en_of (lsign_name h1)).1 (en_of (lsign_name h1)).2.1 h), if_pos (by decide)]
  have hsp : (if es = [] then [] else gp sLp) = ([] : Tx) := by
    split
    · rfl
    · decide
  rw [ln_step, g1, ln_step, g2, eq, ln_close (by decide), hsp]
  cases t with
  | none =>
    rw [show Wd (toTk none) ++ [sSc] = [sSc] from rfl, ln_close (by decide)]
    simp [Sm.simple, toTx, lnGo]
  | some y =>
    have hy := h4 y rfl
    rw [show Wd (toTk (some y)) ++ [sSc] = kTo :: y :: [sSc] from rfl, ln_after (by refine ⟨?_, ?_, ?_, ?_, ?_⟩ <;> decide) ⟨by decide, by decide⟩, ln_after (by refine ⟨?_, ?_, ?_, ?_, ?_⟩ <;> decide) (pl_name hy), ln_close (by decide)]
    simp [Sm.simple, toTx, lnGo]
/-! the layout -/
def noE (w : Tx) : Prop := w ≠ sSc ∧ w ≠ sLb ∧ w ≠ sRb
theorem lt_words {d : Nat} {out : Tx} {rest : List Tx} : ∀ (W : List Tx) (line : List Tx), (∀ w ∈ W, noE w) → LT d (line ++ W) rest out → LT d line (W ++ rest) out
  | [], line, _, h => by
    rw [List.append_nil] at h
    exact h
  | w :: W, line, hw, h => by
    obtain ⟨h1, h2, h3⟩ := hw w List.mem_cons_self
    refine .word h1 h2 h3 (lt_words W (line ++ [w]) (fun z hz => hw z (List.mem_cons_of_mem _ hz)) ?_)
    rw [List.append_assoc]
    exact h
theorem noE_name {x : Tx} (h : nameOk x = true) : noE x := by
  obtain ⟨c, r, rfl, h1, _⟩ := name_cons h
  refine ⟨fun e => ?_, fun e => ?_, fun e => ?_⟩ <;> (injection e with e1 e2; subst e1; revert h1; decide)
theorem noE_dec (n : Nat) : noE (dec n) := by
  obtain ⟨c, r, e, h1⟩ := dec_cons n
  rw [e]
  refine ⟨fun e => ?_, fun e => ?_, fun e => ?_⟩ <;> (injection e with e1 e2; subst e1; revert h1; decide)
def NE (l : List Tx) : Prop := ∀ w ∈ l, noE w
theorem ne_nil : NE [] := fun _ h => nomatch h
theorem ne_cons {w : Tx} {l : List Tx} (h : noE w) (r : NE l) : NE (w :: l) := fun z hz => by
  rcases List.mem_cons.mp hz with rfl | hz
  · exact h
  · exact r z hz
theorem ne_app {a b : List Tx} (h : NE a) (r : NE b) : NE (a ++ b) := fun z hz => by
  rcases List.mem_append.mp hz with hz | hz
  · exact h z hz
  · exact r z hz
instance (w : Tx) : Decidable (noE w) := by
  unfold noE
  infer_instance
theorem ne_ex : ∀ (e : Ex) (n : Nat), e.ok n → NE (Wd e.tk)
  | .num i, n, h => by
    show NE (Wd (numTk i))
    unfold numTk
    split
    · exact ne_cons (by decide) (ne_cons (noE_dec _) ne_nil)
    · exact ne_cons (noE_dec _) ne_nil
  | .name x, n, h => ne_cons (noE_name (by cases n <;> exact h)) ne_nil
  | .op _ _ _, 0, h => h.elim
  | .op g l r, n + 1, h => by
    have h1 := ne_ex l n h.1
    have h2 := ne_ex r n h.2
    simp only [Ex.tk, wd_cons, wd_app]
    exact ne_cons (by decide) (ne_app h1 (ne_cons (by cases g <;> decide) (ne_app h2 (ne_cons (by decide) ne_nil))))
theorem ne_co : ∀ (c : Co) (n : Nat), c.ok n → NE (Wd c.tk)
  | .cmp g l r, n, h => by
    have h1 : l.ok 1 ∧ r.ok 1 := by cases n <;> exact h
    simp only [Co.tk, wd_cons, wd_app]
    exact ne_app (ne_ex l 1 h1.1) (ne_cons (by cases g <;> decide) (ne_ex r 1 h1.2))
  | .not _, 0, h => h.elim
  | .not c, n + 1, h => by
    simp only [Co.tk, wd_cons]
    exact ne_cons (by decide) (ne_co c n h)
  | .bin _ _ _, 0, h => h.elim
  | .bin k l r, n + 1, h => by
    simp only [Co.tk, wd_cons, wd_app]
    exact ne_cons (by decide) (ne_app (ne_co l n h.1) (ne_cons (by cases k <;> decide) (ne_app (ne_co r n h.2) (ne_cons (by decide) ne_nil))))
theorem ne_commas : ∀ zs : List (List Tk), (∀ z ∈ zs, NE (Wd z)) → NE (Wd (commas zs))
  | [], _ => ne_nil
  | [x], h => h x List.mem_cons_self
  | x :: y :: l, h => by
    show NE (Wd (x ++ .s sCm :: commas (y :: l)))
    rw [wd_app, wd_cons]
    exact ne_app (h x List.mem_cons_self) (ne_cons (by decide) (ne_commas (y :: l) fun z hz => h z (List.mem_cons_of_mem _ hz)))
theorem lt_line {d : Nat} {W rest : List Tx} {out l : Tx} (h : NE W) (e : lineTx (W ++ [sSc]) = l) (r : LT d [] rest out) : LT d [] (W ++ sSc :: rest) (spaces d ++ l ++ [10] ++ out) := by
  subst e
  exact lt_words W [] h (.semi r)
theorem lt_open {d : Nat} {W rest : List Tx} {out l : Tx} (h : NE W) (e : lineTx (W ++ [sLb]) = l) (r : LT (d + 1) [] rest out) : LT d [] (W ++ sLb :: rest) (spaces d ++ l ++ [10] ++ out) := by
  subst e
  exact lt_words W [] h (.lb r)
theorem spaces_succ (d : Nat) : spaces (d + 1) = spaces d ++ four := by
  unfold spaces
  rw [List.replicate_succ', List.flatten_append] <;> simp
mutual
theorem lt_sm : ∀ (s : Sm) (n : Nat), s.ok n → ∀ (d : Nat) (rest : List Tx) (out : Tx), rest.headD [] ≠ kElse → LT d [] rest out → LT d [] (Wd s.tk ++ rest) (unlines (s.lines (spaces d)) ++ out)
  | .set x e, n, h, d, rest, out, hr, hl => by
    obtain ⟨h1, h2⟩ := sm_set h
    have := lt_line (W := x :: sEq :: Wd e.tk) (ne_cons (noE_name h1) (ne_cons (by decide) (ne_ex e 3 h2))) (line_set h1 h2) hl
    simpa [Sm.tk, Sm.lines, wd_cons, wd_nil, wd_app, unl_cons, unl_nil, Tk.tx] using this
  | .ask x, n, h, d, rest, out, hr, hl => by
    have h1 := sm_ask h
    have := lt_line (W := [kAsk, x]) (ne_cons (by decide) (ne_cons (noE_name h1) ne_nil)) (line_ask h1) hl
    simpa [Sm.tk, Sm.lines, wd_cons, wd_nil, wd_app, unl_cons, unl_nil, Tk.tx] using this
  | .tell k e, n, h, d, rest, out, hr, hl => by
    have h2 := sm_tell h
    have := lt_line (W := tellRet k :: Wd e.tk) (ne_cons (by cases k <;> decide) (ne_ex e 3 h2)) (line_tell h2) hl
    simpa [Sm.tk, Sm.lines, wd_cons, wd_nil, wd_app, unl_cons, unl_nil, Tk.tx] using this
  | .chk k c, n, h, d, rest, out, hr, hl => by
    have h2 := sm_chk h
    have := lt_line (W := chkNeed k :: Wd c.tk) (ne_cons (by cases k <;> decide) (ne_co c 2 h2)) (line_chk h2) hl
    simpa [Sm.tk, Sm.lines, wd_cons, wd_nil, wd_app, unl_cons, unl_nil, Tk.tx] using this
  | .call f es t, n, h, d, rest, out, hr, hl => by
    obtain ⟨h1, h2, h3, h4⟩ := sm_call h
    have hE : NE (Wd (commas (es.map Ex.tk))) := ne_commas _ fun z hz => by
      obtain ⟨e, he, rfl⟩ := List.mem_map.mp hz
      exact ne_ex e 1 (h3 e he)
    have hT : NE (Wd (toTk t)) := by
      cases t with
      | none => exact ne_nil
      | some y => exact ne_cons (by decide) (ne_cons (noE_name (h4 y rfl)) ne_nil)
    have := lt_line (W := kCall :: f :: sLp :: (Wd (commas (es.map Ex.tk)) ++ sRp :: Wd (toTk t))) (ne_cons (by decide) (ne_cons (noE_name h1) (ne_cons (by decide) (ne_app hE (ne_cons (by decide) hT))))) (line_call h1 h3 h4) hl
    simpa [Sm.tk, Sm.lines, wd_cons, wd_nil, wd_app, unl_cons, unl_nil, Tk.tx] using this
  | .ite _ _ _, 0, h, _, _, _, _, _ => by simp only [Sm.ok] at h
  | .whil _ _, 0, h, _, _, _, _, _ => by simp only [Sm.ok] at h
  | .ite c a b, n + 1, h, d, rest, out, hr, hl => by
    simp only [Sm.ok] at h
    obtain ⟨hc, la, lb, ka, kb⟩ := h
    have e1 : LT (d + 1) [] (Wd (if b.isEmpty then [.s sRb] else .s sRb :: .w kElse :: .s sLb :: (Sm.tks b ++ [.s sRb])) ++ rest)
        (unlines (if b.isEmpty then [] else (spaces d ++ [125, 32] ++ kElse ++ [32, 123]) :: Sm.liness b (spaces d ++ four)) ++ (spaces d ++ 125 :: 10 :: out)) := by
      cases b with
      | nil =>
        have := LT.rb (d := d) (line := []) hr hl
        simpa [Wd, Tk.tx, lineTx, lnGo, unl_nil] using this
      | cons s0 b' =>
        have f0 : LT (d + 1) [] (sRb :: rest) (spaces d ++ lineTx ([] ++ [sRb]) ++ [10] ++ out) := LT.rb hr hl
        have f1 := lt_sms (s0 :: b') n kb (d + 1) (sRb :: rest) _ (show sRb ≠ kElse by decide) f0
        have f2 : LT d [sRb] (kElse :: sLb :: (Wd (Sm.tks (s0 :: b')) ++ sRb :: rest)) _ := lt_words [kElse] [sRb] (ne_cons (by decide) ne_nil) (.lb f1)
        have f3 := LT.rbe (line := []) f2
        have hline : lineTx ([sRb] ++ [kElse] ++ [sLb]) = [125, 32] ++ kElse ++ [32, 123] := by decide
        rw [hline] at f3
        simpa [Wd, Tk.tx, lineTx, lnGo, unl_cons, unl_nil, spaces_succ] using f3
    have e2 := lt_sms a n ka (d + 1) _ _ (by cases b <;> (intro e; revert e; simp [Wd, Tk.tx])) e1
    have e3 := lt_open (W := kIf :: Wd c.tk) (ne_cons (by decide) (ne_co c 2 hc)) (line_hd hc (st_w (by decide) (by decide) (by decide) (by decide)) (by decide)) e2
    cases b with
    | nil => simpa [Sm.tk, Sm.lines, wd_cons, wd_nil, wd_app, unl_cons, unl_nil, unl_app, Tk.tx, spaces_succ] using e3
    | cons s0 b' => simpa [Sm.tk, Sm.lines, wd_cons, wd_nil, wd_app, unl_cons, unl_nil, unl_app, Tk.tx, spaces_succ] using e3
  | .whil c a, n + 1, h, d, rest, out, hr, hl => by
    simp only [Sm.ok] at h
    obtain ⟨hc, la, ka⟩ := h
    have f0 : LT (d + 1) [] (sRb :: rest) (spaces d ++ lineTx ([] ++ [sRb]) ++ [10] ++ out) := LT.rb hr hl
    have e2 := lt_sms a n ka (d + 1) (sRb :: rest) _ (show sRb ≠ kElse by decide) f0
    have e3 := lt_open (W := kWhile :: Wd c.tk) (ne_cons (by decide) (ne_co c 2 hc)) (line_hd hc (st_w (by decide) (by decide) (by decide) (by decide)) (by decide)) e2
    simpa [Sm.tk, Sm.lines, wd_cons, wd_nil, wd_app, unl_cons, unl_nil, unl_app, Tk.tx, spaces_succ, Wd, lineTx, lnGo] using e3
theorem lt_sms : ∀ (b : List Sm) (n : Nat), (∀ s ∈ b, s.ok n) → ∀ (d : Nat) (rest : List Tx) (out : Tx), rest.headD [] ≠ kElse → LT d [] rest out → LT d [] (Wd (Sm.tks b) ++ rest) (unlines (Sm.liness b (spaces d)) ++ out)
  | [], _, _, _, _, _, _, hl => by
    simp only [Sm.liness, Sm.tks]
    exact hl
  | s :: b, n, h, d, rest, out, hr, hl => by
    have e1 := lt_sms b n (fun z hz => h z (List.mem_cons_of_mem _ hz)) d rest out hr hl
    have hh : (Wd (Sm.tks b) ++ rest).headD [] ≠ kElse := by
      cases b with
      | nil =>
        simp only [Sm.tks]
        exact hr
      | cons s1 b1 =>
        obtain ⟨x, ts, es, hx⟩ := sm_first (h s1 (List.mem_cons_of_mem _ List.mem_cons_self))
        simp only [Sm.tks, es]
        exact hx
    have e2 := lt_sm s n (h s List.mem_cons_self) d _ _ hh e1
    simpa [Sm.liness, Sm.tks, unl_app, wd_app] using e2
end
theorem line_proc {p : Pr} (h1 : nameOk p.name = true) (h3 : ∀ x ∈ p.ps, nameOk x = true) : lineTx (kProc :: p.name :: sLp :: (Wd (psTk p.ps) ++ [sRp]) ++ [sLb]) = kProc ++ [32] ++ p.name ++ sLp ++ cjoin p.ps ++ sRp ++ [32, 123] := by
  have st : St p.name sLp := st_lp (b := []) (en_of (lsign_name h1)).2.2.2.1 (en_of (lsign_name h1)).2.2.2.2
  obtain ⟨b, g, s1, s2, eq⟩ := ln_ctl (fun x : Tx => x) (fun x : Tx => [Tk.w x]) p.ps (fun z hz b f hs => ln_nm (h3 z hz) b f hs) p.name sLp st
  have ew : kProc :: p.name :: sLp :: (Wd (psTk p.ps) ++ [sRp]) ++ [sLb] = kProc :: p.name :: sLp :: (Wd (commas (p.ps.map fun x => [Tk.w x])) ++ (sRp :: [sLb])) := by simp [psTk]
  rw [ew]
  show kProc ++ lnGo [] kProc (p.name :: sLp :: _) = _
  have g1 : lgap [] kProc p.name = true := gap_yes (by decide) (by decide) (fun e => absurd e (by decide)) (pl_name h1).cl (fun e => absurd e (pl_name h1).lp)
  have g2 : lgap kProc p.name sLp = false := by
    unfold lgap
    rw [if_neg (by
      rintro (h | h)
      · exact absurd h (by decide)
      · exact opens_no (en_of (lsign_name h1)).1 (en_of (lsign_name h1)).2.1 h), if_pos (by decide)]
  have hsp : (if p.ps = [] then [] else gp sLp) = ([] : Tx) := by
    split
    · rfl
    · decide
  rw [ln_step, g1, ln_step, g2, eq, ln_close (by decide), hsp, List.map_id', ln_after (by refine ⟨?_, ?_, ?_, ?_, ?_⟩ <;> decide) ⟨by decide, by decide⟩]
  simp [lnGo]
theorem lt_pr (p : Pr) (h : p.ok) (rest : List Tx) (out : Tx) (hr : rest.headD [] ≠ kElse) (hl : LT 0 [] rest out) : LT 0 [] (Wd p.tk ++ rest) (unlines p.lines ++ out) := by
  obtain ⟨h1, h2, h3, h4, h5⟩ := h
  have f0 : LT 1 [] (sRb :: rest) (spaces 0 ++ lineTx ([] ++ [sRb]) ++ [10] ++ out) := LT.rb hr hl
  have e2 := lt_sms p.body 3 h5 1 (sRb :: rest) _ (show sRb ≠ kElse by decide) f0
  have hP : NE (Wd (psTk p.ps)) := ne_commas _ fun z hz => by
    obtain ⟨x, hx, rfl⟩ := List.mem_map.mp hz
    exact ne_cons (noE_name (h3 x hx)) ne_nil
  have e3 := lt_open (W := kProc :: p.name :: sLp :: (Wd (psTk p.ps) ++ [sRp])) (ne_cons (by decide) (ne_cons (noE_name h1) (ne_cons (by decide) (ne_app hP (ne_cons (by decide) ne_nil))))) (line_proc h1 h3) e2
  have s1 : spaces 1 = four := by decide
  have s0 : spaces 0 = [] := rfl
  rw [s1, s0] at e3
  simpa [Pr.tk, Pr.lines, wd_cons, wd_nil, wd_app, unl_cons, unl_nil, unl_app, Tk.tx, Wd, lineTx, lnGo] using e3
theorem lt_prs : ∀ ps : List Pr, (∀ p ∈ ps, p.ok) → LT 0 [] (Wd (prsTk ps)) (unlines (ps.flatMap Pr.lines)) ∧ (Wd (prsTk ps)).headD [] ≠ kElse
  | [], _ => ⟨.nil, by decide⟩
  | p :: r, h => by
    obtain ⟨e1, e2⟩ := lt_prs r fun z hz => h z (List.mem_cons_of_mem _ hz)
    have e3 := lt_pr p (h p List.mem_cons_self) _ _ e2 e1
    refine ⟨by simpa [prsTk, unl_app, wd_app] using e3, ?_⟩
    show kProc ≠ kElse
    decide
theorem lt_gs : ∀ gs : List Tx, (∀ x ∈ gs, nameOk x = true) → ∀ (rest : List Tx) (out : Tx), LT 0 [] rest out → LT 0 [] (Wd (gsTk gs) ++ rest) (unlines (gs.map fun x => kGlobal ++ [32] ++ x ++ [59]) ++ out)
  | [], _, _, _, hl => hl
  | x :: l, h, rest, out, hl => by
    have e1 := lt_gs l (fun z hz => h z (List.mem_cons_of_mem _ hz)) rest out hl
    have hx := h x List.mem_cons_self
    have hline : lineTx ([kGlobal, x] ++ [sSc]) = kGlobal ++ [32] ++ x ++ [59] := by
      show kGlobal ++ lnGo [] kGlobal (x :: [sSc]) = _
      rw [ln_after (by refine ⟨?_, ?_, ?_, ?_, ?_⟩ <;> decide) (pl_name hx), ln_close (by decide)]
      simp [lnGo]
    have e2 := lt_line (W := [kGlobal, x]) (ne_cons (by decide) (ne_cons (noE_name hx) ne_nil)) hline e1
    simpa [gsTk, unl_cons, wd_cons, Tk.tx, spaces] using e2
theorem lt_pg {p : Pg} (h : p.ok) : LT 0 [] (Wd p.tk) p.tx := by
  obtain ⟨_, h1, _, h2⟩ := h
  have := lt_gs p.gs h1 _ _ (lt_prs p.prs h2).1
  unfold Pg.tx Pg.tk Pg.lines
  rw [unl_app, wd_app]
  exact this
end Cc
namespace Cc
/-! ### sizes of the data -/
structure Gw (d : PyData) (n w : Nat) : Prop where
  ok : okS n d
  ish : PyData.intsShort 13 d = true
  wt : PyData.weight d ≤ w
  nod : PyData.hasDict d = false
structure GA (ds : List PyData) (n w : Nat) : Prop where
  ok : ∀ d ∈ ds, okS n d
  ish : PyData.intsShortAll 13 ds = true
  wt : PyData.weightAll ds ≤ w
  nod : PyData.hasDictAll ds = false
theorem okS_up : ∀ (n : Nat) (d : PyData), okS n d → okS (n + 1) d
  | 0, .none, h => h
  | 0, .int _, h => h
  | 0, .str _, h => h
  | 0, .bool _, h => h.elim
  | 0, .list _, h => h.elim
  | 0, .dict _, h => h.elim
  | 0, .tuple _, h => h.elim
  | n + 1, .none, h => h
  | n + 1, .int _, h => h
  | n + 1, .str _, h => h
  | n + 1, .bool _, h => h.elim
  | n + 1, .list _, h => h.elim
  | n + 1, .dict _, h => h.elim
  | n + 1, .tuple ds, h => ⟨h.1, fun d hd => okS_up n d (h.2 d hd)⟩
theorem okS_le {n m : Nat} {d : PyData} (h : okS n d) (le : n ≤ m) : okS m d := by
  induction le with
  | refl => exact h
  | step _ ih => exact okS_up _ _ ih
theorem Gw.up {d : PyData} {n w m v : Nat} (h : Gw d n w) (l1 : n ≤ m) (l2 : w ≤ v) : Gw d m v := ⟨okS_le h.ok l1, h.ish, Nat.le_trans h.wt l2, h.nod⟩
theorem ga_nil {n : Nat} : GA [] n 0 := ⟨(fun _ h => nomatch h), rfl, Nat.le_refl _, rfl⟩
theorem ga_cons {d : PyData} {ds : List PyData} {n w v : Nat} (h : Gw d n w) (r : GA ds n v) : GA (d :: ds) n (w + 1 + v) := by
  refine ⟨fun z hz => ?_, ?_, ?_, ?_⟩
  · rcases List.mem_cons.mp hz with rfl | hz
    · exact h.ok
    · exact r.ok z hz
  · simp only [PyData.intsShortAll, h.ish, r.ish, Bool.and_self]
  · have := h.wt
    have := r.wt
    simp only [PyData.weightAll]
    omega
  · simp only [PyData.hasDictAll, h.nod, r.nod, Bool.or_self]
theorem gw_tup {ds : List PyData} {n w : Nat} (h : GA ds n w) (l : ds.length ≤ 1000) : Gw (.tuple ds) (n + 1) w := by
  refine ⟨⟨l, h.ok⟩, ?_, ?_, ?_⟩
  · simp only [PyData.intsShort, h.ish]
  · simp only [PyData.weight]
    exact h.wt
  · simp only [PyData.hasDict, h.nod]
theorem gw_str {x : Tx} {n w : Nat} (h : txOk x = true) (l : x.length ≤ w) : Gw (S x) n w := by
  refine ⟨okS_le (n := 0) ((gd_str h).shaped (by omega)) (Nat.zero_le _), rfl, ?_, rfl⟩
  show (mk x).cps.size ≤ w
  simpa [mk] using l
theorem gw_int {i : Int} {n : Nat} (h : -10000 ≤ i ∧ i ≤ 10000) : Gw (.int i) n 14 := by
  refine ⟨okS_le (n := 0) ((gd_int h).shaped (by omega)) (Nat.zero_le _), ?_, ?_, rfl⟩
  · simp only [PyData.intsShort, decide_eq_true_eq]
    refine PyData.shown_int_le ?_
    have e : (10 : Nat) ^ 12 = 1000000000000 := by decide
    rw [e]
    omega
  · simp only [PyData.weight]
    split
    · omega
    · rename_i h0
      have h1 : i.natAbs ≠ 0 := by
        intro z
        apply h0
        have : i = 0 := by omega
        rw [this] <;> rfl
      have e14 : (2 : Nat) ^ 14 = 16384 := by decide
      have := (Nat.log2_lt h1).mpr (show i.natAbs < 2 ^ 14 by rw [e14]; omega)
      omega
theorem gw_non {n w : Nat} : Gw .none n w := ⟨by cases n <;> trivial, rfl, Nat.zero_le _, rfl⟩
theorem gw_name {x : Tx} {n : Nat} (h : nameOk x = true) : Gw (S x) n 12 := gw_str (name_txOk h) (name_len h)
theorem numTk_len (i : Int) : 1 ≤ (numTk i).length := by
  unfold numTk
  split <;> simp
theorem gw_ex : ∀ (n : Nat) (e : Ex), e.ok n → Gw e.da (n + 1) (40 * e.tk.length)
  | n, .num i, h => by
    have := numTk_len i
    exact (gw_tup (n := n) (ga_cons (gw_str (x := [110, 117, 109, 98, 101, 114]) (w := 6) (by decide) (by decide)) (ga_cons (gw_int (ex_num h)) ga_nil)) (by simp)).up (by omega) (by show _ ≤ 40 * (numTk i).length; omega)
  | n, .name x, h => (gw_tup (n := n) (ga_cons (gw_str (x := [110, 97, 109, 101]) (w := 4) (by decide) (by decide)) (ga_cons (gw_name (ex_nam h)) ga_nil)) (by simp)).up (by omega) (by show _ ≤ 40 * 1; omega)
  | 0, .op _ _ _, h => h.elim
  | n + 1, .op g l r, h => by
    have h1 := gw_ex n l h.1
    have h2 := gw_ex n r h.2
    refine (gw_tup (ga_cons (gw_str (x := [111, 112]) (w := 2) (by decide) (by decide)) (ga_cons (gw_str (x := g.tx) (w := 3) (by cases g <;> decide) (by cases g <;> decide)) (ga_cons h1 (ga_cons h2 ga_nil)))) (by simp)).up (by omega) ?_
    simp only [Ex.tk, List.length_cons, List.length_append, List.length_nil]
    omega
theorem gw_co : ∀ (n : Nat) (c : Co), c.ok n → Gw c.da (n + 3) (40 * c.tk.length)
  | n, .cmp g a b, h => by
    have h1 := gw_ex 1 a (co_cmp h).1
    have h2 := gw_ex 1 b (co_cmp h).2
    refine (gw_tup (ga_cons (gw_str (x := [99, 111, 109, 112, 97, 114, 101]) (w := 7) (by decide) (by decide)) (ga_cons (gw_str (x := g.tx) (w := 3) (by cases g <;> decide) (by cases g <;> decide)) (ga_cons h1 (ga_cons h2 ga_nil)))) (by simp)).up (by omega) ?_
    simp only [Co.tk, List.length_cons, List.length_append, List.length_nil]
    omega
  | 0, .not _, h => h.elim
  | n + 1, .not c, h => by
    have h1 := gw_co n c h
    refine (gw_tup (ga_cons (gw_str (x := kNot) (w := 3) (by decide) (by decide)) (ga_cons h1 ga_nil)) (by simp)).up (by omega) ?_
    simp only [Co.tk, List.length_cons]
    omega
  | 0, .bin _ _ _, h => h.elim
  | n + 1, .bin k a b, h => by
    have h1 := gw_co n a h.1
    have h2 := gw_co n b h.2
    refine (gw_tup (ga_cons (gw_str (x := andOr k) (w := 3) (by cases k <;> decide) (by cases k <;> decide)) (ga_cons h1 (ga_cons h2 ga_nil))) (by simp)).up (by omega) ?_
    simp only [Co.tk, List.length_cons, List.length_append, List.length_nil]
    omega
theorem ga_map {α : Type} {f : α → PyData} {sz : α → Nat} {n : Nat} : ∀ zs : List α, (∀ z ∈ zs, Gw (f z) n (sz z)) → GA (zs.map f) n ((zs.map fun z => sz z + 1).sum)
  | [], _ => ga_nil
  | z :: r, h => ga_cons (h z List.mem_cons_self) (ga_map r fun y hy => h y (List.mem_cons_of_mem _ hy))
theorem sum_commas {α : Type} {tk : α → List Tk} (h1 : ∀ z, 1 ≤ (tk z).length) : ∀ zs : List α, (zs.map fun z => 40 * (tk z).length + 1).sum ≤ 40 * (commas (zs.map tk)).length + 1
  | [] => by simp
  | [x] => by simp [commas]
  | x :: y :: l => by
    have := sum_commas h1 (y :: l)
    simp only [List.map_cons, List.sum_cons, commas, List.length_append, List.length_cons] at this ⊢
    omega
theorem ex_tk_pos : ∀ e : Ex, 1 ≤ e.tk.length
  | .num i => numTk_len i
  | .name _ => Nat.le_refl _
  | .op _ _ _ => by simp only [Ex.tk, List.length_cons]; omega
theorem gw_up1 {d : PyData} {n w v : Nat} (h : Gw d n w) (l : w ≤ v) : Gw d n v := h.up (Nat.le_refl _) l
theorem gw_sm0 (n : Nat) (s : Sm) (h : s.ok n) (hf : match s with | .ite _ _ _ => False | .whil _ _ => False | _ => True) : Gw s.da 6 (40 * s.tk.length - 1) := by
  cases s with
  | ite _ _ _ => exact hf.elim
  | whil _ _ => exact hf.elim
  | set x e =>
    obtain ⟨h1, h2⟩ := sm_set h
    have e1 := (gw_ex 3 e h2).up (m := 5) (by omega) (Nat.le_refl _)
    simp only [Sm.da]
    refine (gw_tup (ga_cons (gw_str (x := [115, 101, 116]) (w := 3) (by decide) (by decide)) (ga_cons (gw_name h1) (ga_cons e1 ga_nil))) (by simp)).up (by omega) ?_
    simp only [Sm.tk, List.length_cons, List.length_append, List.length_nil]
    omega
  | ask x =>
    have h1 := sm_ask h
    simp only [Sm.da]
    refine (gw_tup (n := 5) (ga_cons (gw_str (x := kAsk) (w := 3) (by decide) (by decide)) (ga_cons (gw_name h1) ga_nil)) (by simp)).up (by omega) ?_
    simp only [Sm.tk, List.length_cons, List.length_nil]
    omega
  | tell k e =>
    have e1 := (gw_ex 3 e (sm_tell h)).up (m := 5) (by omega) (Nat.le_refl _)
    simp only [Sm.da]
    refine (gw_tup (ga_cons (gw_str (x := tellRet k) (w := 6) (by cases k <;> decide) (by cases k <;> decide)) (ga_cons e1 ga_nil)) (by simp)).up (by omega) ?_
    simp only [Sm.tk, List.length_cons, List.length_append, List.length_nil]
    omega
  | chk k c =>
    have e1 := (gw_co 2 c (sm_chk h)).up (m := 5) (by omega) (Nat.le_refl _)
    simp only [Sm.da]
    refine (gw_tup (ga_cons (gw_str (x := chkNeed k) (w := 6) (by cases k <;> decide) (by cases k <;> decide)) (ga_cons e1 ga_nil)) (by simp)).up (by omega) ?_
    simp only [Sm.tk, List.length_cons, List.length_append, List.length_nil]
    omega
  | call f es t =>
    obtain ⟨h1, h2, h3, h4⟩ := sm_call h
    have a1 := ga_map (f := Ex.da) (sz := fun e => 40 * e.tk.length) (n := 4) es fun e he => (gw_ex 1 e (h3 e he)).up (by omega) (Nat.le_refl _)
    have a2 := sum_commas (tk := Ex.tk) ex_tk_pos es
    have a3 := gw_tup a1 (by rw [List.length_map]; omega)
    have a4 : Gw (optDa t) 5 12 := by
      cases t with
      | none => exact gw_non
      | some x => exact gw_name (h4 x rfl)
    simp only [Sm.da]
    refine (gw_tup (ga_cons (gw_str (x := kCall) (w := 4) (by decide) (by decide)) (ga_cons (gw_name h1) (ga_cons a3 (ga_cons a4 ga_nil)))) (by simp)).up (by omega) ?_
    simp only [Sm.tk, List.length_cons, List.length_append, List.length_nil]
    omega
theorem sm_tk_pos : ∀ s : Sm, 1 ≤ s.tk.length := by
  intro s
  cases s <;> (simp only [Sm.tk, List.length_cons]; omega)
theorem sum_tks : ∀ b : List Sm, (b.map fun s => (40 * s.tk.length - 1) + 1).sum = 40 * (Sm.tks b).length
  | [] => by simp [Sm.tks]
  | s :: r => by
    have h := sum_tks r
    have := sm_tk_pos s
    simp only [List.map_cons, List.sum_cons, Sm.tks, List.length_append] at h ⊢
    omega
theorem gw_sm : ∀ (n : Nat) (s : Sm), s.ok n → Gw s.da (2 * n + 6) (40 * s.tk.length - 1) := by
  intro n
  induction n with
  | zero =>
    intro s h
    cases s with
    | ite _ _ _ => obtain ⟨j, hj, _⟩ := sm_ite h; cases hj
    | whil _ _ => obtain ⟨j, hj, _⟩ := sm_whil h; cases hj
    | set x e => exact gw_sm0 0 _ h trivial
    | ask x => exact gw_sm0 0 _ h trivial
    | tell k e => exact gw_sm0 0 _ h trivial
    | chk k c => exact gw_sm0 0 _ h trivial
    | call f es t => exact gw_sm0 0 _ h trivial
  | succ n ih =>
    intro s h
    have blk : ∀ b : List Sm, (∀ s ∈ b, Sm.ok n s) → b.length ≤ 3 → Gw (.tuple (Sm.das b)) (2 * n + 7) (40 * (Sm.tks b).length) := fun b hb hl => by
      have := ga_map (f := Sm.da) (sz := fun s => 40 * s.tk.length - 1) b fun s hs => ih s (hb s hs)
      rw [sum_tks] at this
      rw [das_map]
      exact gw_tup this (by rw [List.length_map]; omega)
    cases s with
    | set x e => exact (gw_sm0 (n + 1) _ h trivial).up (by omega) (Nat.le_refl _)
    | ask x => exact (gw_sm0 (n + 1) _ h trivial).up (by omega) (Nat.le_refl _)
    | tell k e => exact (gw_sm0 (n + 1) _ h trivial).up (by omega) (Nat.le_refl _)
    | chk k c => exact (gw_sm0 (n + 1) _ h trivial).up (by omega) (Nat.le_refl _)
    | call f es t => exact (gw_sm0 (n + 1) _ h trivial).up (by omega) (Nat.le_refl _)
    | ite c a b =>
      obtain ⟨j, hj, hc, l1, l2, h3, h4⟩ := sm_ite h
      cases hj
      have e1 := (gw_co 2 c hc).up (m := 2 * n + 7) (by omega) (Nat.le_refl _)
      simp only [Sm.da]
      refine (gw_tup (ga_cons (gw_str (x := kIf) (w := 2) (by decide) (by decide)) (ga_cons e1 (ga_cons (blk a h3 l1) (ga_cons (blk b h4 l2) ga_nil)))) (by simp)).up (by omega) ?_
      rw [ite_tk]
      cases b with
      | nil =>
        simp only [blkTk, Sm.tks, List.isEmpty_nil, if_true, List.length_cons, List.length_append, List.length_nil]
        omega
      | cons s0 r =>
        simp only [blkTk, List.isEmpty_cons, Bool.false_eq_true, if_false, List.length_cons, List.length_append, List.length_nil]
        omega
    | whil c a =>
      obtain ⟨j, hj, hc, l1, h3⟩ := sm_whil h
      cases hj
      have e1 := (gw_co 2 c hc).up (m := 2 * n + 7) (by omega) (Nat.le_refl _)
      simp only [Sm.da]
      refine (gw_tup (ga_cons (gw_str (x := kWhile) (w := 5) (by decide) (by decide)) (ga_cons e1 (ga_cons (blk a h3 l1) ga_nil))) (by simp)).up (by omega) ?_
      rw [whil_tk]
      simp only [blkTk, List.length_cons, List.length_append, List.length_nil]
      omega
theorem gw_pr (p : Pr) (h : p.ok) : Gw p.da 14 (40 * p.tk.length - 1) := by
  obtain ⟨h1, h2, h3, h4, h5⟩ := h
  have a1 := ga_map (f := S) (sz := fun _ => 12) (n := 12) p.ps fun x hx => gw_name (h3 x hx)
  have a2 := gw_tup a1 (by rw [List.length_map]; omega)
  have b1 := ga_map (f := Sm.da) (sz := fun s => 40 * s.tk.length - 1) (n := 12) p.body fun s hs => gw_sm 3 s (h5 s hs)
  rw [sum_tks, ← das_map] at b1
  have b2 := gw_tup b1 (by rw [das_map, List.length_map]; omega)
  have c1 : (p.ps.map fun _ => 12 + 1).sum ≤ 91 := by
    have : (p.ps.map fun _ => 12 + 1).sum = 13 * p.ps.length := by
      rw [List.map_const', List.sum_replicate_nat]
      omega
    omega
  refine (gw_tup (ga_cons (gw_name h1) (ga_cons a2 (ga_cons b2 ga_nil))) (by simp)).up (by omega) ?_
  simp only [Pr.tk, List.length_cons, List.length_append, List.length_nil]
  omega
theorem pr_tk_pos (p : Pr) : 1 ≤ p.tk.length := by
  simp only [Pr.tk, List.length_cons]
  omega
theorem sum_prs : ∀ b : List Pr, (b.map fun s => (40 * s.tk.length - 1) + 1).sum = 40 * (prsTk b).length
  | [] => by simp [prsTk]
  | s :: r => by
    have h := sum_prs r
    have := pr_tk_pos s
    simp only [List.map_cons, List.sum_cons, prsTk, List.length_append] at h ⊢
    omega
theorem gw_pg (p : Pg) (h : p.ok) : Gw p.da 16 (40 * p.tk.length + 106) := by
  obtain ⟨h1, h2, h3, h4⟩ := h
  have a1 := ga_map (f := S) (sz := fun _ => 12) (n := 14) p.gs fun x hx => gw_name (h2 x hx)
  have a2 := gw_tup a1 (by rw [List.length_map]; omega)
  have b1 := ga_map (f := Pr.da) (sz := fun s => 40 * s.tk.length - 1) (n := 14) p.prs fun s hs => gw_pr s (h4 s hs)
  rw [sum_prs] at b1
  have b2 := gw_tup b1 (by rw [List.length_map]; omega)
  have c1 : (p.gs.map fun _ => 12 + 1).sum ≤ 104 := by
    have : (p.gs.map fun _ => 12 + 1).sum = 13 * p.gs.length := by
      rw [List.map_const', List.sum_replicate_nat]
      omega
    omega
  refine (gw_tup (ga_cons a2 (ga_cons b2 ga_nil)) (by simp)).up (by omega) ?_
  simp only [Pg.tk, List.length_append]
  omega
theorem gd_pg (p : Pg) (h : p.ok) : Gd p.da 16 := by
  obtain ⟨h1, h2, h3, h4⟩ := h
  refine gd2 (n := 15) ((gd_tup (n := 0) fun d hd => ?_).up (by omega)) (gd_tup (n := 14) fun d hd => ?_)
  · obtain ⟨x, hx, rfl⟩ := List.mem_map.mp hd
    exact gd_str (name_txOk (h2 x hx))
  · obtain ⟨q, hq, rfl⟩ := List.mem_map.mp hd
    obtain ⟨k1, k2, k3, k4, k5⟩ := h4 q hq
    refine gd3 (n := 13) ((gd_str (name_txOk k1)).up (by omega)) ((gd_tup (n := 0) fun d hd => ?_).up (by omega)) (gd_blk k5)
    obtain ⟨x, hx, rfl⟩ := List.mem_map.mp hd
    exact gd_str (name_txOk (k3 x hx))
theorem shown_pg {p : Pg} (h : p.ok) (ht : p.tk.length ≤ 1000) : p.da.shown.length ≤ sizeLine := by
  have g1 := gw_pg p h
  have g2 := gd_pg p h
  refine PyData.shown_fits_of_layable0 (B := 13) (by decide) (by decide) ?_ g1.ish
  show (PyData.canLay0 p.da && decide (PyData.depth p.da ≤ 64) && decide (PyData.weight p.da ≤ 2 ^ 20)) = true
  have e : (2 : Nat) ^ 20 = 1048576 := by decide
  have w := g1.wt
  rw [g2.lay, decide_eq_true (Nat.le_trans g2.dep (by omega)), decide_eq_true (by rw [e]; omega)] <;> rfl
/-- words of a text that falls into them -/
theorem lex_facts {t : Tx} {ts : List Tk} (h : Lex t ts) : txOk t = true ∧ ∀ w ∈ Wd ts, w.length ≤ 100 ∧ txOk w = true := by
  induction h with
  | nil => exact ⟨rfl, fun w hw => nomatch hw⟩
  | sp _ ih => exact ⟨by unfold txOk at *; rw [List.all_cons, ih.1] <;> rfl, ih.2⟩
  | nl _ ih => exact ⟨by unfold txOk at *; rw [List.all_cons, ih.1] <;> rfl, ih.2⟩
  | @tok r ts k hk _ ih =>
    have hw : k.tx.length ≤ 100 ∧ txOk k.tx = true := by
      cases k with
      | w x =>
        have h1 := hk.1
        unfold wordOk at h1
        simp only [Bool.and_eq_true, decide_eq_true_eq] at h1
        refine ⟨Nat.le_trans h1.2 (by omega), ?_⟩
        unfold txOk
        rw [List.all_eq_true]
        intro c hc
        exact decide_eq_true (isWc_lt (List.all_eq_true.mp h1.1.2 c hc))
      | n k =>
        have h1 := dec_len hk.1
        refine ⟨by show (dec k).length ≤ 100; omega, ?_⟩
        unfold txOk
        rw [List.all_eq_true]
        intro c hc
        have := dec_dig k c hc
        unfold isDig at this
        simp only [Bool.and_eq_true, decide_eq_true_eq] at this ⊢
        omega
      | s x =>
        obtain ⟨i, h1, _⟩ := hk
        have hm : x ∈ signs := List.mem_of_getElem? h1
        have : ∀ y ∈ signs, y.length ≤ 100 ∧ txOk y = true := by decide
        exact this x hm
    refine ⟨?_, fun w hw' => ?_⟩
    · have h1 := hw.2
      have h2 := ih.1
      unfold txOk at *
      rw [List.all_append, h1, h2] <;> rfl
    · rcases List.mem_cons.mp hw' with rfl | hw'
      · exact hw
      · exact ih.2 w hw'
end Cc
namespace Cc
/-! ### the law -/
theorem scr_new {K : PySem.W.Frag} {H H' : Hp} {a l : Addr} {ns : List Int} (h : SqL K H a (ns.map V.int)) (hl : H l = none) (e : Same H H') : Scr K H' l a ns := fun H2 e2 => by
  rcases h with (h | ⟨o, h⟩) | h
  · exact .inl (.inl (e2 _ _ (ne_of_none h hl) (e _ _ h)))
  · exact .inl (.inr ⟨o, e2 _ _ (ne_of_none h hl) (e _ _ h)⟩)
  · exact .inr h
theorem tx_eq {p : Pg} : (p.lines.map fun l => l ++ [10]).flatten = p.tx := (unlines_eq p.lines).symm
theorem str_val {K : PySem.W.Frag} {H : Hp} {Q : VK} {k : Tk} (h : ∀ n, k = .n n → n ≤ 10000) (q : Q (.str (mk k.tx)) H) : cStrA [valV k] H Q := by
  cases k with
  | w x => exact .inr ⟨mk x, rfl, q⟩
  | s x => exact .inr ⟨mk x, rfl, q⟩
  | n k =>
    have hk := h k rfl
    refine .inl (w_strI ⟨by omega, by omega⟩ ?_)
    have e : decI (k : Int) = dec k := by
      unfold decI
      rw [if_neg (by omega)] <;> rfl
    rw [e]
    exact q
theorem lex_num {t : Tx} {ts : List Tk} (h : Lex t ts) : ∀ k ∈ ts, ∀ n, k = .n n → n ≤ 10000 := by
  induction h with
  | nil => exact fun k hk => nomatch hk
  | sp _ ih => exact ih
  | nl _ ih => exact ih
  | tok hk _ ih =>
    intro k' hk'
    rcases List.mem_cons.mp hk' with rfl | hk'
    · intro n e
      subst e
      exact hk.1
    · exact ih k' hk'
theorem w_neS0 {H : Hp} {Q : VK} {a : Str} (q : Q (.bl false) H) : rNe (.str a) (.str a) H Q := by
  refine ⟨rfl, ?_⟩
  rw [decide_eq_true rfl]
  exact q
def sp_law (K : PySem.W.Frag) : Sp := fun vs H Q _ => ∃ (a : Addr) (ns : List Int), vs = [.ref a] ∧ SqL K H a (ns.map V.int) ∧ ∀ H', Q (.bl true) H'
theorem pg0_ok : Pg.ok ⟨[], []⟩ := ⟨by decide, (fun _ h => nomatch h), by decide, (fun _ h => nomatch h)⟩
theorem gA_strs {n : Nat} : ∀ ws : List Tx, (∀ w ∈ ws, txOk w = true) → ∀ d ∈ ws.map S, Gd d n := fun ws h d hd => by
  obtain ⟨x, hx, rfl⟩ := List.mem_map.mp hd
  exact (gd_str (h x hx)).up (Nat.zero_le _)
theorem shaped_words {ws : List Tx} (h : ∀ w ∈ ws, txOk w = true) : SeqAt.shaped (.list (ws.map S)) = true := by
  obtain ⟨a, b, c⟩ := gd_all (gA_strs (n := 0) ws h)
  unfold SeqAt.shaped
  have e1 : PyData.canLay0 (.list (ws.map S)) = true := by simp only [PyData.canLay0, a]
  have e2 : PyData.depth (.list (ws.map S)) ≤ 64 := by
    simp only [PyData.depth]
    omega
  rw [e1, decide_eq_true e2] <;> rfl
theorem dp_words {K : PySem.W.Frag} {H : Hp} {p : Addr} {ws : List Tx} (h : SqL K H p (sgV ws)) : Dp K H (.ref p) (.list (ws.map S)) := .lst h (dpall_names ws)
theorem w_lcIt {K : PySem.W.Frag} {σ : L2.St} {H : Hp} {Q : VK} {te tl : TE} {j : Nat} (h : tl σ H fun x H1 => tLc (iTup K (tC x)) (gName j) tYes te [j] σ H1 Q) : tLc (iTup K tl) (gName j) tYes te [j] σ H Q := h
theorem pu_law {K : PySem.W.Frag} (vs : List V) (H : Hp) (Q : VK) (E : XK) (h : sp_law K vs H Q E) :
    t_law K (sp__law_any_program K) (sp__law_program_words K) (sp_write K) (sp__law_same K 17) (sp__law_text K) (sp_parse K) (sp_tokens K) { nx := fun _ H' => Q .non H', rt := Q } (start n_law vs) H := by
  obtain ⟨a, ns, rfl, ha, q⟩ := h
  delta t_law
  walk_at "gog"
  rename_i l H1 hl e1 hl1
  have g1 : Gs K H1 l a := ⟨⟨0, 0, 1, 0, hl1, by decide, by decide, by decide⟩, ns, scr_new ha hl e1⟩
  refine l_forR (n := 2) (fun Q q => by walk_at "gog"; exact q) (by decide)
    (fun i σ H' => ∃ w2 w3 w4 w5 w6 w7, σ = [some (.ref a), some (.ref l), w2, w3, w4, w5, w6, w7] ∧ Gs K H' l a) ⟨_, _, _, _, _, _, rfl, g1⟩
    (fun i σ' H' hi ⟨w2, w3, w4, w5, w6, w7, hσ, g⟩ => ?_) (fun σ' H' ⟨w2, w3, w4, w5, w6, w7, hσ, g⟩ => ?_)
  · subst hσ
    walk_at "gog"
    refine ⟨l, a, rfl, g, ?_⟩
    rintro v H2 f2 g2 ⟨p, hp, hdp⟩
    have hX := lex_pg hp
    obtain ⟨hX1, hX2⟩ := lex_facts hX
    walk_at "gog"
    refine ⟨v, p, rfl, hdp, hp, fun pw H3 hpw e3 hl3 => ?_⟩
    have g3 := g2.same e3
    walk_at "gog"
    refine w_dec (fun hc => ?_) (fun hc => ?_)
    · walk_at "gog"
      exact q H3
    have ht : p.tk.length ≤ 1000 := by
      rw [sgV_len, wd_len] at hc
      omega
    have htx : p.tx.length ≤ 361000 := by
      have := pg_tx_len hp ht
      rw [tx_eq] at this
      exact this
    have d3 : Dp K H3 v p.da := dp_same e3 (pg_plain p) hdp
    obtain ⟨va, vb, vc, us, wz, rfl, _⟩ := dp_pg d3
    walk_at "gog"
    refine ⟨va, p.da, rfl, d3, (gd_pg p hp).sh, (gw_pg p hp).nod, Nat.le_trans (gd_pg p hp).dep (by omega), shown_pg hp ht, ?_⟩
    walk_at "gog"
    refine ⟨.ref va, p, rfl, d3, hp, ht, fun H4 e4 => ?_⟩
    have d4 := dp_same e4 (pg_plain p) d3
    walk_at "gog"
    refine ⟨pw, Wd p.tk, p.tx, rfl, SqL.of (e4 _ _ hl3), by rw [wd_len]; exact ht, fun w hw => (hX2 w hw).1, lt_pg hp, by omega, fun H5 e5 => ?_⟩
    walk_at "gog"
    refine ⟨.str (mk p.tx), .str (mk p.tx), S p.tx, 16, rfl, rfl, okS_le (n := 0) ((gd_str hX1).shaped (by omega)) (Nat.zero_le _), rfl, .str _, .str _, fun H6 e6 => ?_⟩
    walk_at "gog"
    refine ⟨p.tx, p, rfl, hp, hX, by omega, fun v7 H7 e7 d7 => ?_⟩
    have d7' : Dp K H7 (.ref va) p.da := dp_same (e5.trans (e6.trans e7)) (pg_plain p) d4
    walk_at "gog"
    refine ⟨v7, .ref va, p.da, 16, rfl, rfl, (gw_pg p hp).ok, pg_plain p, d7, d7', fun H8 e8 => ?_⟩
    have d8 : Dp K H8 (.ref va) p.da := dp_same e8 (pg_plain p) d7'
    walk_at "gog"
    refine ⟨va, p.da, rfl, d8, (gd_pg p hp).sh, (gw_pg p hp).nod, Nat.le_trans (gd_pg p hp).dep (by omega), shown_pg hp ht, ?_⟩
    walk_at "gog"
    refine w_neS0 ?_
    walk_at "gog"
    have e38 : Same H3 H8 := e4.trans (e5.trans (e6.trans (e7.trans e8)))
    have lw8 := e38 _ _ hl3
    have g8 := g3.same e38
    refine w_lcIt ?_
    walk_at "gog"
    refine ⟨p.tx, p.tk, rfl, hX, by omega, fun pt wt H9 hpt e9 hl9 hT => ?_⟩
    have lw9 := e9 _ _ lw8
    have g9 := g8.same e9
    refine w_lcTv (a := pt) (xs := wt) (sgV (Wd p.tk)) (fun Q q => q) (SqT.of hl9) (by rw [hT.1]; omega) (by rw [sgV_len, wd_len, hT.1]) (fun _ => rfl) (fun i x z Ha hx hz ea Q' q' => ?_) (fun D Hb hD eb hb => ?_)
    · have hil : i < p.tk.length := by
        have := (List.getElem?_eq_some_iff.mp hx).1
        rw [hT.1] at this
        exact this
      obtain ⟨ta, tl, tc, rfl, hta⟩ := hT.2 i x _ hx (List.getElem?_eq_getElem hil)
      have ez : z = .str (mk p.tk[i].tx) := by
        have : (sgV (Wd p.tk))[i]? = some (.str (mk p.tk[i].tx)) := by
          unfold sgV Wd
          rw [List.getElem?_map, List.getElem?_map, List.getElem?_eq_getElem hil] <;> rfl
        rw [this] at hz
        exact (Option.some.inj hz).symm
      subst ez
      walk_at "gog"
      exact str_val (K := K) (lex_num hX _ (List.getElem_mem hil)) (q' _ (Same.refl Ha))
    · walk_at "gog"
      have shp := shaped_words fun w hw => (hX2 w hw).2
      refine w_neD (dp_words (SqL.of hb)) (dp_words (SqL.of (eb _ _ lw9))) shp shp ?_
      rw [SeqAt.eqv_refl _ (SeqAt.canLay_of_shaped shp)]
      walk_at "gog"
      exact ⟨_, _, _, _, _, _, rfl, g9.same eb⟩
  · subst hσ
    walk_at "gog"
    rename_i p1 H1' hp1 e1' hl1' p2 H2 hp2 e2 hl2 p3 H3 hp3 e3 hl3
    have d3 : Dp K H3 (.ref p3) (Pg.da ⟨[], []⟩) := .tup (SqT.of hl3) (.cons (.tup (SqT.of (e3 _ _ (e2 _ _ hl1'))) .nil) (.cons (.tup (SqT.of (e3 _ _ hl2)) .nil) .nil))
    refine ⟨.ref p3, ⟨[], []⟩, rfl, d3, pg0_ok, by decide, fun H4 e4 => ?_⟩
    walk_at "gog"
    refine ⟨.str (mk []), .str (mk []), S [], 16, rfl, rfl, okS_le (n := 0) ((gd_str (x := []) (by decide)).shaped (by omega)) (Nat.zero_le _), rfl, .str _, .str _, fun H5 e5 => ?_⟩
    exact q H5
end Cc
end
section
open PySem PySem.Spec PyProof.Rows L2
namespace Cc
/-! ### from the head's facts to the law's promise -/
theorem tab {K : PySem.W.Frag} {x : Str} {l : List Str} {ts : List Tx} (h : He.tupB K x (l.map He.Dv.str) = true) (e : l = ts.map mk) (H : Hp) : SqT K H (He.ga K x) (sgV ts) := by
  have := He.tupB_ok h H
  subst e
  rw [List.map_map, List.map_map] at this
  exact this
theorem chain {P : Program} {w : World} {K : PySem.W.Frag} {mg : Str → Option Value} {h : Heap} {base : Heap} (X : K.In h) (G : h.Ns mainGlobals mg) (c : He.SaysD fa fn K) (T : GF K mg) (C : RdCls K) (tS : ∀ H, SqT K H (He.ga K "SIGNS") (sgV signs)) (tR : ∀ H, SqT K H (He.ga K "RESERVED") (sgV resv)) (tO : ∀ H, SqT K H (He.ga K "OPERATIONS") (sgV [sPl, sMi, sMu, sDi])) (tE : ∀ H, SqT K H (He.ga K "RELATIONS") (sgV [sLt, sLe, sEE, sNe])) :
    Has P w K mg base (30) "_law_any_program" a__law_any_program (sp__law_any_program K) ∧ Has P w K mg base (30) "_law_program_words" a__law_program_words (sp__law_program_words K) ∧ Has P w K mg base (30) "write" a_write (sp_write K) ∧ Has P w K mg base (30) "_law_same" a__law_same (sp__law_same K 17) ∧ Has P w K mg base (30) "_law_text" a__law_text (sp__law_text K) ∧ Has P w K mg base (30) "parse" a_parse (sp_parse K) ∧ Has P w K mg base (30) "tokens" a_tokens (sp_tokens K) := by
  have H_expression_text : ∀ n, Has P w K mg base (1 + n) "expression_text" a_expression_text (sp_expression_text K n) := by
   intro n
   induction n with
   | zero => exact (by
    have hv : ∀ vs H Q E, ¬ (sp_expression_text K 0) vs H Q E := fun vs H Q E h => by obtain ⟨_, _, _, _, h0, _⟩ := h; omega
    obtain ⟨fd, F⟩ := (c.def_ 4 : ∃ fd, FunD K "expression_text" "expression_text" (defArgs s_expression_text) (defBody s_expression_text) (defScope s_expression_text) [] [] (He.ga K "expression_text") fd)
    exact ⟨fd, FunD.ok F sc_expression_text (fun vs H Q E h => (hv _ _ _ _ h).elim) (fun cdv A outer s H vs Q E hr h => (hv _ _ _ _ h).elim), FunD.bindsN F (ps := a_expression_text) (fun _ _ _ _ _ _ us hl => match us, hl with | [_], _ => rfl), F.kp, (He.glo_ok X G (c.fact 4))⟩ : Has P w K mg base (0 + 1) "expression_text" a_expression_text (sp_expression_text K 0)).up (by omega)
   | succ n ih => exact (ok_expression_text (k := 1 + n) T (c.def_ 4 : ∃ fd, FunD K "expression_text" "expression_text" (defArgs s_expression_text) (defBody s_expression_text) (defScope s_expression_text) [] [] (He.ga K "expression_text") fd) (He.glo_ok X G (c.fact 4)) (ih.up (by omega)) (fun vs H Q E h => by obtain ⟨_, _, _, rfl, _⟩ := h; rfl) (pu_expression_text) : Has P w K mg base (1 + n + 1) "expression_text" a_expression_text (sp_expression_text K (n + 1)))
  have H_condition_text : ∀ n, Has P w K mg base (6 + n) "condition_text" a_condition_text (sp_condition_text K n) := by
   intro n
   induction n with
   | zero => exact (by
    have hv : ∀ vs H Q E, ¬ (sp_condition_text K 0) vs H Q E := fun vs H Q E h => by obtain ⟨_, _, _, _, h0, _⟩ := h; omega
    obtain ⟨fd, F⟩ := (c.def_ 5 : ∃ fd, FunD K "condition_text" "condition_text" (defArgs s_condition_text) (defBody s_condition_text) (defScope s_condition_text) [] [] (He.ga K "condition_text") fd)
    exact ⟨fd, FunD.ok F sc_condition_text (fun vs H Q E h => (hv _ _ _ _ h).elim) (fun cdv A outer s H vs Q E hr h => (hv _ _ _ _ h).elim), FunD.bindsN F (ps := a_condition_text) (fun _ _ _ _ _ _ us hl => match us, hl with | [_], _ => rfl), F.kp, (He.glo_ok X G (c.fact 5))⟩ : Has P w K mg base (0 + 1) "condition_text" a_condition_text (sp_condition_text K 0)).up (by omega)
   | succ n ih => exact (ok_condition_text (k := 6 + n) T (c.def_ 5 : ∃ fd, FunD K "condition_text" "condition_text" (defArgs s_condition_text) (defBody s_condition_text) (defScope s_condition_text) [] [] (He.ga K "condition_text") fd) (He.glo_ok X G (c.fact 5)) (ih.up (by omega)) ((H_expression_text 4).up (by omega)) (fun vs H Q E h => by obtain ⟨_, _, _, rfl, _⟩ := h; rfl) (pu_condition_text) : Has P w K mg base (6 + n + 1) "condition_text" a_condition_text (sp_condition_text K (n + 1)))
  have H_simple_text : Has P w K mg base (10) "simple_text" a_simple_text (sp_simple_text K) := ok_simple_text (k := 9) T (c.def_ 3 : ∃ fd, FunD K "simple_text" "simple_text" (defArgs s_simple_text) (defBody s_simple_text) (defScope s_simple_text) [] [] (He.ga K "simple_text") fd) (He.glo_ok X G (c.fact 3)) ((H_expression_text 4).up (by omega)) ((H_condition_text 3).up (by omega)) (fun vs H Q E h => by obtain ⟨_, _, _, rfl, _⟩ := h; rfl) (pu_simple_text)
  have HP_statement_lines : ∀ n, Has P w K mg base (11 + 2 * n) "statement_lines" a_statement_lines (sp_statement_lines K n) ∧ Has P w K mg base (11 + 2 * n + 1) "block_lines" a_block_lines (sp_block_lines K n) := by
   intro n
   induction n with
   | zero =>
    have h0 : Has P w K mg base (11 + 2 * 0) "statement_lines" a_statement_lines (sp_statement_lines K 0) := (by
    have hv : ∀ vs H Q E, ¬ (sp_statement_lines K 0) vs H Q E := fun vs H Q E h => by obtain ⟨_, _, _, _, _, h0, _⟩ := h; omega
    obtain ⟨fd, F⟩ := (c.def_ 2 : ∃ fd, FunD K "statement_lines" "statement_lines" (defArgs s_statement_lines) (defBody s_statement_lines) (defScope s_statement_lines) [] [] (He.ga K "statement_lines") fd)
    exact ⟨fd, FunD.ok F sc_statement_lines (fun vs H Q E h => (hv _ _ _ _ h).elim) (fun cdv A outer s H vs Q E hr h => (hv _ _ _ _ h).elim), FunD.bindsN F (ps := a_statement_lines) (fun _ _ _ _ _ _ us hl => match us, hl with | [_, _], _ => rfl), F.kp, (He.glo_ok X G (c.fact 2))⟩ : Has P w K mg base (0 + 1) "statement_lines" a_statement_lines (sp_statement_lines K 0)).up (by omega)
    exact ⟨h0, (ok_block_lines (k := 11 + 2 * 0) T (c.def_ 1 : ∃ fd, FunD K "block_lines" "block_lines" (defArgs s_block_lines) (defBody s_block_lines) (defScope s_block_lines) [] [] (He.ga K "block_lines") fd) (He.glo_ok X G (c.fact 1)) h0 (fun vs H Q E h => by obtain ⟨_, _, _, _, rfl, _⟩ := h; rfl) (pu_block_lines) : Has P w K mg base (11 + 2 * 0 + 1) "block_lines" a_block_lines (sp_block_lines K 0))⟩
   | succ n ih =>
    obtain ⟨i1, i2⟩ := ih
    have h1 : Has P w K mg base (11 + 2 * (n + 1)) "statement_lines" a_statement_lines (sp_statement_lines K (n + 1)) := (ok_statement_lines (k := 11 + 2 * n + 1) T (c.def_ 2 : ∃ fd, FunD K "statement_lines" "statement_lines" (defArgs s_statement_lines) (defBody s_statement_lines) (defScope s_statement_lines) [] [] (He.ga K "statement_lines") fd) (He.glo_ok X G (c.fact 2)) ((H_condition_text 3).up (by omega)) (i2.up (by omega)) (H_simple_text.up (by omega)) (fun vs H Q E h => by obtain ⟨_, _, _, _, rfl, _⟩ := h; rfl) (pu_statement_lines) : Has P w K mg base (11 + 2 * n + 1 + 1) "statement_lines" a_statement_lines (sp_statement_lines K (n + 1))).up (by omega)
    exact ⟨h1, (ok_block_lines (k := 11 + 2 * (n + 1)) T (c.def_ 1 : ∃ fd, FunD K "block_lines" "block_lines" (defArgs s_block_lines) (defBody s_block_lines) (defScope s_block_lines) [] [] (He.ga K "block_lines") fd) (He.glo_ok X G (c.fact 1)) h1 (fun vs H Q E h => by obtain ⟨_, _, _, _, rfl, _⟩ := h; rfl) (pu_block_lines) : Has P w K mg base (11 + 2 * (n + 1) + 1) "block_lines" a_block_lines (sp_block_lines K (n + 1)))⟩
  have H_statement_lines : ∀ n, Has P w K mg base (11 + 2 * n) "statement_lines" a_statement_lines (sp_statement_lines K n) := fun n => (HP_statement_lines n).1
  have H_block_lines : ∀ n, Has P w K mg base (11 + 2 * n + 1) "block_lines" a_block_lines (sp_block_lines K n) := fun n => (HP_statement_lines n).2
  have H_write : Has P w K mg base (21) "write" a_write (sp_write K) := ok_write (k := 20) T (c.def_ 0 : ∃ fd, FunD K "write" "write" (defArgs s_write) (defBody s_write) (defScope s_write) [] [] (He.ga K "write") fd) (He.glo_ok X G (c.fact 0)) ((H_block_lines 4).up (by omega)) (fun vs H Q E h => by obtain ⟨_, _, rfl, _⟩ := h; rfl) (pu_write)
  have H_end_of : Has P w K mg base (1) "end_of" a_end_of (sp_end_of) := ok_end_of (k := 0) T (c.def_ 8 : ∃ fd, FunD K "end_of" "end_of" (defArgs s_end_of) (defBody s_end_of) (defScope s_end_of) [] [] (He.ga K "end_of") fd) (He.glo_ok X G (c.fact 8))  (fun vs H Q E h => by obtain ⟨_, _, _, _, _, _, rfl, _⟩ := h; rfl) (pu_end_of)
  have H_number_at : Has P w K mg base (2) "number_at" a_number_at (sp_number_at) := ok_number_at (k := 1) T (c.def_ 9 : ∃ fd, FunD K "number_at" "number_at" (defArgs s_number_at) (defBody s_number_at) (defScope s_number_at) [] [] (He.ga K "number_at") fd) (He.glo_ok X G (c.fact 9)) (H_end_of.up (by omega)) (fun vs H Q E h => by obtain ⟨_, _, _, _, _, rfl, _⟩ := h; rfl) (pu_number_at)
  have H_token_at : Has P w K mg base (3) "token_at" a_token_at (sp_token_at) := ok_token_at (k := 2) T (c.def_ 7 : ∃ fd, FunD K "token_at" "token_at" (defArgs s_token_at) (defBody s_token_at) (defScope s_token_at) [] [] (He.ga K "token_at") fd) (He.glo_ok X G (c.fact 7)) (H_end_of.up (by omega)) (H_number_at.up (by omega)) (fun vs H Q E h => by obtain ⟨_, _, _, _, _, rfl, _⟩ := h; rfl) (pu_token_at tS)
  have H_tokens : Has P w K mg base (4) "tokens" a_tokens (sp_tokens K) := ok_tokens (k := 3) T (c.def_ 6 : ∃ fd, FunD K "tokens" "tokens" (defArgs s_tokens) (defBody s_tokens) (defScope s_tokens) [] [] (He.ga K "tokens") fd) (He.glo_ok X G (c.fact 6)) (H_token_at.up (by omega)) (fun vs H Q E h => by obtain ⟨_, _, rfl, _⟩ := h; rfl) (pu_tokens)
  have H_end_place : Has P w K mg base (1) "end_place" a_end_place (sp_end_place) := ok_end_place (k := 0) T (c.def_ 10 : ∃ fd, FunD K "end_place" "end_place" (defArgs s_end_place) (defBody s_end_place) (defScope s_end_place) [] [] (He.ga K "end_place") fd) (He.glo_ok X G (c.fact 10))  (fun vs H Q E h => by obtain ⟨_, rfl, _⟩ := h; rfl) (pu_end_place)
  have H_Reader_fail : HasM P w K mg base (1) "fail" a_Reader_fail (sp_never) := by
    have hv : ∀ vs H Q E, ¬ (sp_never) vs H Q E := fun vs H Q E h => h.elim
    obtain ⟨fd, F⟩ := (c.def_ 14 : ∃ fd, FunD K "fail" "Reader.fail" (defArgs s_Reader_fail) (defBody s_Reader_fail) (defScope s_Reader_fail) [] [] (He.ma K (He.ga K "Reader") "fail") fd)
    exact ⟨fd, FunD.ok F sc_Reader_fail (fun vs H Q E h => (hv _ _ _ _ h).elim) (fun cdv A outer s H vs Q E hr h => (hv _ _ _ _ h).elim), FunD.bindsN F (ps := a_Reader_fail) (fun _ _ _ _ _ _ us hl => match us, hl with | [_], _ => rfl), (He.meth_ok (c.fact 67))⟩
  have H_Reader_init : HasI P w K mg base (6) a_Reader_init (sp_init K) := ok_Reader_init (k := 5) T (c.def_ 11 : ∃ fd, FunD K "__init__" "Reader.__init__" (defArgs s_Reader_init) (defBody s_Reader_init) (defScope s_Reader_init) [] [] (He.ma K (He.ga K "Reader") "__init__") fd)  (H_tokens.up (by omega)) (H_end_place.up (by omega)) (fun vs H Q E h => by obtain ⟨_, _, _, _, rfl, _⟩ := h; rfl) (pu_Reader_init C)
  have H_Reader_kind : HasM P w K mg base (1) "kind" a_Reader_kind (sp_kind K) := ok_Reader_kind (k := 0) T (c.def_ 12 : ∃ fd, FunD K "kind" "Reader.kind" (defArgs s_Reader_kind) (defBody s_Reader_kind) (defScope s_Reader_kind) [] [] (He.ma K (He.ga K "Reader") "kind") fd) (He.meth_ok (c.fact 65))  (fun vs H Q E h => by obtain ⟨_, _, _, rfl, _⟩ := h; rfl) (pu_Reader_kind C)
  have H_Reader_value : HasM P w K mg base (1) "value" a_Reader_value (sp_value K) := ok_Reader_value (k := 0) T (c.def_ 13 : ∃ fd, FunD K "value" "Reader.value" (defArgs s_Reader_value) (defBody s_Reader_value) (defScope s_Reader_value) [] [] (He.ma K (He.ga K "Reader") "value") fd) (He.meth_ok (c.fact 66))  (fun vs H Q E h => by obtain ⟨_, _, _, rfl, _⟩ := h; rfl) (pu_Reader_value C)
  have H_Reader_step : HasM P w K mg base (1) "step" a_Reader_step (sp_step K) := ok_Reader_step (k := 0) T (c.def_ 17 : ∃ fd, FunD K "step" "Reader.step" (defArgs s_Reader_step) (defBody s_Reader_step) (defScope s_Reader_step) [] [] (He.ma K (He.ga K "Reader") "step") fd) (He.meth_ok (c.fact 70))  (fun vs H Q E h => by obtain ⟨_, _, _, rfl, _⟩ := h; rfl) (pu_Reader_step C)
  have H_Reader_is_sign : HasM P w K mg base (2) "is_sign" a_Reader_is_sign (sp_is_sign K) := ok_Reader_is_sign (k := 1) T (c.def_ 15 : ∃ fd, FunD K "is_sign" "Reader.is_sign" (defArgs s_Reader_is_sign) (defBody s_Reader_is_sign) (defScope s_Reader_is_sign) [] [] (He.ma K (He.ga K "Reader") "is_sign") fd) (He.meth_ok (c.fact 68)) (H_Reader_kind.up (by omega)) (H_Reader_value.up (by omega)) (fun vs H Q E h => by obtain ⟨_, _, _, _, rfl, _⟩ := h; rfl) (pu_Reader_is_sign)
  have H_Reader_is_word : HasM P w K mg base (2) "is_word" a_Reader_is_word (sp_is_word K) := ok_Reader_is_word (k := 1) T (c.def_ 16 : ∃ fd, FunD K "is_word" "Reader.is_word" (defArgs s_Reader_is_word) (defBody s_Reader_is_word) (defScope s_Reader_is_word) [] [] (He.ma K (He.ga K "Reader") "is_word") fd) (He.meth_ok (c.fact 69)) (H_Reader_kind.up (by omega)) (H_Reader_value.up (by omega)) (fun vs H Q E h => by obtain ⟨_, _, _, _, rfl, _⟩ := h; rfl) (pu_Reader_is_word)
  have H_Reader_need_sign : HasM P w K mg base (3) "need_sign" a_Reader_need_sign (sp_need_sign K) := ok_Reader_need_sign (k := 2) T (c.def_ 18 : ∃ fd, FunD K "need_sign" "Reader.need_sign" (defArgs s_Reader_need_sign) (defBody s_Reader_need_sign) (defScope s_Reader_need_sign) [] [] (He.ma K (He.ga K "Reader") "need_sign") fd) (He.meth_ok (c.fact 71)) (H_Reader_is_sign.up (by omega)) (H_Reader_fail.up (by omega)) (H_Reader_step.up (by omega)) (fun vs H Q E h => by obtain ⟨_, _, _, _, rfl, _⟩ := h; rfl) (pu_Reader_need_sign)
  have H_Reader_need_word : HasM P w K mg base (3) "need_word" a_Reader_need_word (sp_need_word K) := ok_Reader_need_word (k := 2) T (c.def_ 19 : ∃ fd, FunD K "need_word" "Reader.need_word" (defArgs s_Reader_need_word) (defBody s_Reader_need_word) (defScope s_Reader_need_word) [] [] (He.ma K (He.ga K "Reader") "need_word") fd) (He.meth_ok (c.fact 72)) (H_Reader_is_word.up (by omega)) (H_Reader_fail.up (by omega)) (H_Reader_step.up (by omega)) (fun vs H Q E h => by obtain ⟨_, _, _, _, rfl, _⟩ := h; rfl) (pu_Reader_need_word)
  have H_Reader_need_name : HasM P w K mg base (3) "need_name" a_Reader_need_name (sp_need_name K) := ok_Reader_need_name (k := 2) T (c.def_ 20 : ∃ fd, FunD K "need_name" "Reader.need_name" (defArgs s_Reader_need_name) (defBody s_Reader_need_name) (defScope s_Reader_need_name) [] [] (He.ma K (He.ga K "Reader") "need_name") fd) (He.meth_ok (c.fact 73)) (H_Reader_kind.up (by omega)) (H_Reader_value.up (by omega)) (H_Reader_fail.up (by omega)) (H_Reader_step.up (by omega)) (fun vs H Q E h => by obtain ⟨_, _, _, _, rfl, _⟩ := h; rfl) (pu_Reader_need_name tR)
  have H_read_number : Has P w K mg base (4) "read_number" a_read_number (sp_read_number K) := ok_read_number (k := 3) T (c.def_ 28 : ∃ fd, FunD K "read_number" "read_number" (defArgs s_read_number) (defBody s_read_number) (defScope s_read_number) [] [] (He.ga K "read_number") fd) (He.glo_ok X G (c.fact 18)) (H_Reader_kind.up (by omega)) (H_Reader_fail.up (by omega)) (H_Reader_value.up (by omega)) (H_Reader_step.up (by omega)) (fun vs H Q E h => by obtain ⟨_, _, _, _, rfl, _⟩ := h; rfl) (pu_read_number)
  have H_read_expression : ∀ n, Has P w K mg base (5 + n) "read_expression" a_read_expression (sp_read_expression K n) := by
   intro n
   induction n with
   | zero => exact (by
    have hv : ∀ vs H Q E, ¬ (sp_read_expression K 0) vs H Q E := fun vs H Q E h => by obtain ⟨_, _, _, _, _, _, _, h0, _⟩ := h; omega
    obtain ⟨fd, F⟩ := (c.def_ 27 : ∃ fd, FunD K "read_expression" "read_expression" (defArgs s_read_expression) (defBody s_read_expression) (defScope s_read_expression) [] [] (He.ga K "read_expression") fd)
    exact ⟨fd, FunD.ok F sc_read_expression (fun vs H Q E h => (hv _ _ _ _ h).elim) (fun cdv A outer s H vs Q E hr h => (hv _ _ _ _ h).elim), FunD.bindsN F (ps := a_read_expression) (fun _ _ _ _ _ _ us hl => match us, hl with | [_], _ => rfl), F.kp, (He.glo_ok X G (c.fact 17))⟩ : Has P w K mg base (0 + 1) "read_expression" a_read_expression (sp_read_expression K 0)).up (by omega)
   | succ n ih => exact (ok_read_expression (k := 5 + n) T (c.def_ 27 : ∃ fd, FunD K "read_expression" "read_expression" (defArgs s_read_expression) (defBody s_read_expression) (defScope s_read_expression) [] [] (He.ga K "read_expression") fd) (He.glo_ok X G (c.fact 17)) (ih.up (by omega)) (H_read_number.up (by omega)) (H_Reader_is_sign.up (by omega)) (H_Reader_step.up (by omega)) (H_Reader_kind.up (by omega)) (H_Reader_value.up (by omega)) (H_Reader_need_word.up (by omega)) (H_Reader_need_sign.up (by omega)) (H_Reader_need_name.up (by omega)) (fun vs H Q E h => by obtain ⟨_, _, _, _, _, _, rfl, _⟩ := h; rfl) (pu_read_expression tO) : Has P w K mg base (5 + n + 1) "read_expression" a_read_expression (sp_read_expression K (n + 1)))
  have H_read_condition : ∀ n, Has P w K mg base (10 + n) "read_condition" a_read_condition (sp_read_condition K n) := by
   intro n
   induction n with
   | zero => exact (by
    have hv : ∀ vs H Q E, ¬ (sp_read_condition K 0) vs H Q E := fun vs H Q E h => by obtain ⟨_, _, _, _, _, _, _, h0, _⟩ := h; omega
    obtain ⟨fd, F⟩ := (c.def_ 29 : ∃ fd, FunD K "read_condition" "read_condition" (defArgs s_read_condition) (defBody s_read_condition) (defScope s_read_condition) [] [] (He.ga K "read_condition") fd)
    exact ⟨fd, FunD.ok F sc_read_condition (fun vs H Q E h => (hv _ _ _ _ h).elim) (fun cdv A outer s H vs Q E hr h => (hv _ _ _ _ h).elim), FunD.bindsN F (ps := a_read_condition) (fun _ _ _ _ _ _ us hl => match us, hl with | [_], _ => rfl), F.kp, (He.glo_ok X G (c.fact 19))⟩ : Has P w K mg base (0 + 1) "read_condition" a_read_condition (sp_read_condition K 0)).up (by omega)
   | succ n ih => exact (ok_read_condition (k := 10 + n) T (c.def_ 29 : ∃ fd, FunD K "read_condition" "read_condition" (defArgs s_read_condition) (defBody s_read_condition) (defScope s_read_condition) [] [] (He.ga K "read_condition") fd) (He.glo_ok X G (c.fact 19)) (ih.up (by omega)) ((H_read_expression 4).up (by omega)) (H_Reader_is_word.up (by omega)) (H_Reader_step.up (by omega)) (H_Reader_is_sign.up (by omega)) (H_Reader_fail.up (by omega)) (H_Reader_value.up (by omega)) (H_Reader_need_sign.up (by omega)) (H_Reader_kind.up (by omega)) (fun vs H Q E h => by obtain ⟨_, _, _, _, _, _, rfl, _⟩ := h; rfl) (pu_read_condition tE) : Has P w K mg base (10 + n + 1) "read_condition" a_read_condition (sp_read_condition K (n + 1)))
  have H_read_names : Has P w K mg base (4) "read_names" a_read_names (sp_read_names K) := ok_read_names (k := 3) T (c.def_ 22 : ∃ fd, FunD K "read_names" "read_names" (defArgs s_read_names) (defBody s_read_names) (defScope s_read_names) [] [] (He.ga K "read_names") fd) (He.glo_ok X G (c.fact 12)) (H_Reader_need_sign.up (by omega)) (H_Reader_is_sign.up (by omega)) (H_Reader_need_name.up (by omega)) (H_Reader_step.up (by omega)) (fun vs H Q E h => by obtain ⟨_, _, _, _, _, rfl, _⟩ := h; rfl) (pu_read_names)
  have H_read_call : Has P w K mg base (10) "read_call" a_read_call (sp_read_call K) := ok_read_call (k := 9) T (c.def_ 26 : ∃ fd, FunD K "read_call" "read_call" (defArgs s_read_call) (defBody s_read_call) (defScope s_read_call) [] [] (He.ga K "read_call") fd) (He.glo_ok X G (c.fact 16)) ((H_read_expression 4).up (by omega)) (H_Reader_step.up (by omega)) (H_Reader_need_name.up (by omega)) (H_Reader_need_sign.up (by omega)) (H_Reader_is_sign.up (by omega)) (H_Reader_is_word.up (by omega)) (fun vs H Q E h => by obtain ⟨_, _, _, _, _, _, _, _, rfl, _⟩ := h; rfl) (pu_read_call)
  have HP_read_statement : ∀ n, Has P w K mg base (14 + 3 * n) "read_statement" a_read_statement (sp_read_statement K n) ∧ Has P w K mg base (14 + 3 * n + 1) "read_block" a_read_block (sp_read_block K n) := by
   intro n
   induction n with
   | zero =>
    have h0 : Has P w K mg base (14 + 3 * 0) "read_statement" a_read_statement (sp_read_statement K 0) := (by
    have hv : ∀ vs H Q E, ¬ (sp_read_statement K 0) vs H Q E := fun vs H Q E h => by obtain ⟨_, _, _, _, _, _, _, h0, _⟩ := h; omega
    obtain ⟨fd, F⟩ := (c.def_ 24 : ∃ fd, FunD K "read_statement" "read_statement" (defArgs s_read_statement) (defBody s_read_statement) (defScope s_read_statement) [] [] (He.ga K "read_statement") fd)
    exact ⟨fd, FunD.ok F sc_read_statement (fun vs H Q E h => (hv _ _ _ _ h).elim) (fun cdv A outer s H vs Q E hr h => (hv _ _ _ _ h).elim), FunD.bindsN F (ps := a_read_statement) (fun _ _ _ _ _ _ us hl => match us, hl with | [_], _ => rfl), F.kp, (He.glo_ok X G (c.fact 14))⟩ : Has P w K mg base (0 + 1) "read_statement" a_read_statement (sp_read_statement K 0)).up (by omega)
    exact ⟨h0, (ok_read_block (k := 14 + 3 * 0) T (c.def_ 23 : ∃ fd, FunD K "read_block" "read_block" (defArgs s_read_block) (defBody s_read_block) (defScope s_read_block) [] [] (He.ga K "read_block") fd) (He.glo_ok X G (c.fact 13)) h0 (H_Reader_need_sign.up (by omega)) (H_Reader_is_sign.up (by omega)) (H_Reader_step.up (by omega)) (fun vs H Q E h => by obtain ⟨_, _, _, _, _, _, rfl, _⟩ := h; rfl) (pu_read_block) : Has P w K mg base (14 + 3 * 0 + 1) "read_block" a_read_block (sp_read_block K 0))⟩
   | succ n ih =>
    obtain ⟨i1, i2⟩ := ih
    have hm : Has P w K mg base (14 + 3 * n + 2) "read_if" a_read_if (sp_read_if K (n + 1)) := ok_read_if (k := 14 + 3 * n + 1) T (c.def_ 25 : ∃ fd, FunD K "read_if" "read_if" (defArgs s_read_if) (defBody s_read_if) (defScope s_read_if) [] [] (He.ga K "read_if") fd) (He.glo_ok X G (c.fact 15)) ((H_read_condition 3).up (by omega)) (i2.up (by omega)) (H_Reader_step.up (by omega)) (H_Reader_is_word.up (by omega)) (fun vs H Q E h => by obtain ⟨_, _, _, _, _, _, _, _, rfl, _⟩ := h; rfl) (pu_read_if)
    have h1 : Has P w K mg base (14 + 3 * (n + 1)) "read_statement" a_read_statement (sp_read_statement K (n + 1)) := (ok_read_statement (k := 14 + 3 * n + 2) T (c.def_ 24 : ∃ fd, FunD K "read_statement" "read_statement" (defArgs s_read_statement) (defBody s_read_statement) (defScope s_read_statement) [] [] (He.ga K "read_statement") fd) (He.glo_ok X G (c.fact 14)) (hm.up (by omega)) ((H_read_condition 3).up (by omega)) (i2.up (by omega)) (H_read_call.up (by omega)) ((H_read_expression 4).up (by omega)) (H_Reader_kind.up (by omega)) (H_Reader_value.up (by omega)) (H_Reader_step.up (by omega)) (H_Reader_need_name.up (by omega)) (H_Reader_need_sign.up (by omega)) (fun vs H Q E h => by obtain ⟨_, _, _, _, _, _, rfl, _⟩ := h; rfl) (pu_read_statement) : Has P w K mg base (14 + 3 * n + 2 + 1) "read_statement" a_read_statement (sp_read_statement K (n + 1))).up (by omega)
    exact ⟨h1, (ok_read_block (k := 14 + 3 * (n + 1)) T (c.def_ 23 : ∃ fd, FunD K "read_block" "read_block" (defArgs s_read_block) (defBody s_read_block) (defScope s_read_block) [] [] (He.ga K "read_block") fd) (He.glo_ok X G (c.fact 13)) h1 (H_Reader_need_sign.up (by omega)) (H_Reader_is_sign.up (by omega)) (H_Reader_step.up (by omega)) (fun vs H Q E h => by obtain ⟨_, _, _, _, _, _, rfl, _⟩ := h; rfl) (pu_read_block) : Has P w K mg base (14 + 3 * (n + 1) + 1) "read_block" a_read_block (sp_read_block K (n + 1)))⟩
  have H_read_statement : ∀ n, Has P w K mg base (14 + 3 * n) "read_statement" a_read_statement (sp_read_statement K n) := fun n => (HP_read_statement n).1
  have H_read_block : ∀ n, Has P w K mg base (14 + 3 * n + 1) "read_block" a_read_block (sp_read_block K n) := fun n => (HP_read_statement n).2
  have H_parse : Has P w K mg base (28) "parse" a_parse (sp_parse K) := ok_parse (k := 27) (k2 := 6) (by omega) T (c.def_ 21 : ∃ fd, FunD K "parse" "parse" (defArgs s_parse) (defBody s_parse) (defScope s_parse) [] [] (He.ga K "parse") fd) (He.glo_ok X G (c.fact 11)) (H_read_names.up (by omega)) ((H_read_block 4).up (by omega)) H_Reader_init (H_Reader_is_word.up (by omega)) (H_Reader_step.up (by omega)) (H_Reader_need_name.up (by omega)) (H_Reader_need_sign.up (by omega)) (H_Reader_kind.up (by omega)) (H_Reader_need_word.up (by omega)) (fun vs H Q E h => by obtain ⟨_, _, rfl, _⟩ := h; rfl) pu_parse
  have H__law_reserved : Has P w K mg base (1) "_law_reserved" a__law_reserved (sp__law_reserved) := ok__law_reserved (k := 0) T (c.def_ 33 : ∃ fd, FunD K "_law_reserved" "_law_reserved" (defArgs s__law_reserved) (defBody s__law_reserved) (defScope s__law_reserved) [] [] (He.ga K "_law_reserved") fd) (He.glo_ok X G (c.fact 23))  (fun vs H Q E h => by obtain ⟨rfl, _⟩ := h; rfl) (pu__law_reserved)
  have H__law_sign : Has P w K mg base (2) "_law_sign" a__law_sign (sp__law_sign) := ok__law_sign (k := 1) T (c.def_ 48 : ∃ fd, FunD K "_law_sign" "_law_sign" (defArgs s__law_sign) (defBody s__law_sign) (defScope s__law_sign) [] [] (He.ga K "_law_sign") fd) (He.glo_ok X G (c.fact 38)) (H__law_reserved.up (by omega)) (fun vs H Q E h => by obtain ⟨_, rfl, _⟩ := h; rfl) (pu__law_sign)
  have H__law_gap : Has P w K mg base (3) "_law_gap" a__law_gap (sp__law_gap) := ok__law_gap (k := 2) T (c.def_ 47 : ∃ fd, FunD K "_law_gap" "_law_gap" (defArgs s__law_gap) (defBody s__law_gap) (defScope s__law_gap) [] [] (He.ga K "_law_gap") fd) (He.glo_ok X G (c.fact 37)) (H__law_sign.up (by omega)) (fun vs H Q E h => by obtain ⟨_, _, _, rfl, _⟩ := h; rfl) (pu__law_gap)
  have H__law_line : Has P w K mg base (4) "_law_line" a__law_line (sp__law_line K) := ok__law_line (k := 3) T (c.def_ 49 : ∃ fd, FunD K "_law_line" "_law_line" (defArgs s__law_line) (defBody s__law_line) (defScope s__law_line) [] [] (He.ga K "_law_line") fd) (He.glo_ok X G (c.fact 39)) (H__law_gap.up (by omega)) (fun vs H Q E h => by obtain ⟨_, _, rfl, _⟩ := h; rfl) (pu__law_line)
  have H__law_text : Has P w K mg base (5) "_law_text" a__law_text (sp__law_text K) := ok__law_text (k := 4) T (c.def_ 50 : ∃ fd, FunD K "_law_text" "_law_text" (defArgs s__law_text) (defBody s__law_text) (defScope s__law_text) [] [] (He.ga K "_law_text") fd) (He.glo_ok X G (c.fact 40)) (H__law_line.up (by omega)) (fun vs H Q E h => by obtain ⟨_, _, _, rfl, _⟩ := h; rfl) (pu__law_text)
  have H__law_same : ∀ n, Has P w K mg base (1 + n) "_law_same" a__law_same (sp__law_same K n) := by
   intro n
   induction n with
   | zero => exact (by
    have hv : ∀ vs H Q E, ¬ (sp__law_same K 0) vs H Q E := fun vs H Q E h => by obtain ⟨_, _, _, _, _, h0, _⟩ := h; omega
    obtain ⟨fd, F⟩ := (c.def_ 31 : ∃ fd, FunD K "_law_same" "_law_same" (defArgs s__law_same) (defBody s__law_same) (defScope s__law_same) [] [] (He.ga K "_law_same") fd)
    exact ⟨fd, FunD.ok F sc__law_same (fun vs H Q E h => (hv _ _ _ _ h).elim) (fun cdv A outer s H vs Q E hr h => (hv _ _ _ _ h).elim), FunD.bindsN F (ps := a__law_same) (fun _ _ _ _ _ _ us hl => match us, hl with | [_, _], _ => rfl), F.kp, (He.glo_ok X G (c.fact 21))⟩ : Has P w K mg base (0 + 1) "_law_same" a__law_same (sp__law_same K 0)).up (by omega)
   | succ n ih => exact (ok__law_same (k := 1 + n) T (c.def_ 31 : ∃ fd, FunD K "_law_same" "_law_same" (defArgs s__law_same) (defBody s__law_same) (defScope s__law_same) [] [] (He.ga K "_law_same") fd) (He.glo_ok X G (c.fact 21)) (ih.up (by omega)) (fun vs H Q E h => by obtain ⟨_, _, _, _, rfl, _⟩ := h; rfl) (pu__law_same) : Has P w K mg base (1 + n + 1) "_law_same" a__law_same (sp__law_same K (n + 1)))
  have H__law_next : Has P w K mg base (1) "_law_next" a__law_next (sp__law_next K) := ok__law_next (k := 0) T (c.def_ 30 : ∃ fd, FunD K "_law_next" "_law_next" (defArgs s__law_next) (defBody s__law_next) (defScope s__law_next) [] [] (He.ga K "_law_next") fd) (He.glo_ok X G (c.fact 20))  (fun vs H Q E h => by obtain ⟨_, _, _, rfl, _⟩ := h; rfl) (pu__law_next)
  have H__law_word : Has P w K mg base (2) "_law_word" a__law_word (sp__law_word K) := ok__law_word (k := 1) T (c.def_ 32 : ∃ fd, FunD K "_law_word" "_law_word" (defArgs s__law_word) (defBody s__law_word) (defScope s__law_word) [] [] (He.ga K "_law_word") fd) (He.glo_ok X G (c.fact 22)) (H__law_next.up (by omega)) (fun vs H Q E h => by obtain ⟨_, _, rfl, _⟩ := h; rfl) (pu__law_word)
  have H__law_name : Has P w K mg base (3) "_law_name" a__law_name (sp__law_name K) := ok__law_name (k := 2) T (c.def_ 34 : ∃ fd, FunD K "_law_name" "_law_name" (defArgs s__law_name) (defBody s__law_name) (defScope s__law_name) [] [] (He.ga K "_law_name") fd) (He.glo_ok X G (c.fact 24)) (H__law_word.up (by omega)) (H__law_reserved.up (by omega)) (fun vs H Q E h => by obtain ⟨_, _, rfl, _⟩ := h; rfl) (pu__law_name)
  have H__law_any_expression : ∀ n, Has P w K mg base (4 + n) "_law_any_expression" a__law_any_expression (sp__law_any_expression K n) := by
   intro n
   induction n with
   | zero => exact (by
    have hv : ∀ vs H Q E, ¬ (sp__law_any_expression K 0) vs H Q E := fun vs H Q E h => by obtain ⟨_, _, _, _, h0, _⟩ := h; omega
    obtain ⟨fd, F⟩ := (c.def_ 35 : ∃ fd, FunD K "_law_any_expression" "_law_any_expression" (defArgs s__law_any_expression) (defBody s__law_any_expression) (defScope s__law_any_expression) [] [] (He.ga K "_law_any_expression") fd)
    exact ⟨fd, FunD.ok F sc__law_any_expression (fun vs H Q E h => (hv _ _ _ _ h).elim) (fun cdv A outer s H vs Q E hr h => (hv _ _ _ _ h).elim), FunD.bindsN F (ps := a__law_any_expression) (fun _ _ _ _ _ _ us hl => match us, hl with | [_, _, _], _ => rfl), F.kp, (He.glo_ok X G (c.fact 25))⟩ : Has P w K mg base (0 + 1) "_law_any_expression" a__law_any_expression (sp__law_any_expression K 0)).up (by omega)
   | succ n ih => exact (ok__law_any_expression (k := 4 + n) T (c.def_ 35 : ∃ fd, FunD K "_law_any_expression" "_law_any_expression" (defArgs s__law_any_expression) (defBody s__law_any_expression) (defScope s__law_any_expression) [] [] (He.ga K "_law_any_expression") fd) (He.glo_ok X G (c.fact 25)) (H__law_next.up (by omega)) (ih.up (by omega)) (H__law_name.up (by omega)) (fun vs H Q E h => by obtain ⟨_, _, _, rfl, _⟩ := h; rfl) (pu__law_any_expression) : Has P w K mg base (4 + n + 1) "_law_any_expression" a__law_any_expression (sp__law_any_expression K (n + 1)))
  have H__law_any_condition : ∀ n, Has P w K mg base (9 + n) "_law_any_condition" a__law_any_condition (sp__law_any_condition K n) := by
   intro n
   induction n with
   | zero => exact (by
    have hv : ∀ vs H Q E, ¬ (sp__law_any_condition K 0) vs H Q E := fun vs H Q E h => by obtain ⟨_, _, _, _, h0, _⟩ := h; omega
    obtain ⟨fd, F⟩ := (c.def_ 36 : ∃ fd, FunD K "_law_any_condition" "_law_any_condition" (defArgs s__law_any_condition) (defBody s__law_any_condition) (defScope s__law_any_condition) [] [] (He.ga K "_law_any_condition") fd)
    exact ⟨fd, FunD.ok F sc__law_any_condition (fun vs H Q E h => (hv _ _ _ _ h).elim) (fun cdv A outer s H vs Q E hr h => (hv _ _ _ _ h).elim), FunD.bindsN F (ps := a__law_any_condition) (fun _ _ _ _ _ _ us hl => match us, hl with | [_, _, _], _ => rfl), F.kp, (He.glo_ok X G (c.fact 26))⟩ : Has P w K mg base (0 + 1) "_law_any_condition" a__law_any_condition (sp__law_any_condition K 0)).up (by omega)
   | succ n ih => exact (ok__law_any_condition (k := 9 + n) T (c.def_ 36 : ∃ fd, FunD K "_law_any_condition" "_law_any_condition" (defArgs s__law_any_condition) (defBody s__law_any_condition) (defScope s__law_any_condition) [] [] (He.ga K "_law_any_condition") fd) (He.glo_ok X G (c.fact 26)) (H__law_next.up (by omega)) (ih.up (by omega)) ((H__law_any_expression 2).up (by omega)) (fun vs H Q E h => by obtain ⟨_, _, _, rfl, _⟩ := h; rfl) (pu__law_any_condition) : Has P w K mg base (9 + n + 1) "_law_any_condition" a__law_any_condition (sp__law_any_condition K (n + 1)))
  have H__law_any_call : Has P w K mg base (9) "_law_any_call" a__law_any_call (sp__law_any_call K) := ok__law_any_call (k := 8) T (c.def_ 37 : ∃ fd, FunD K "_law_any_call" "_law_any_call" (defArgs s__law_any_call) (defBody s__law_any_call) (defScope s__law_any_call) [] [] (He.ga K "_law_any_call") fd) (He.glo_ok X G (c.fact 27)) (H__law_next.up (by omega)) ((H__law_any_expression 2).up (by omega)) (H__law_name.up (by omega)) (fun vs H Q E h => by obtain ⟨_, _, rfl, _⟩ := h; rfl) (pu__law_any_call)
  have HP__law_any_statement : ∀ n, Has P w K mg base (13 + 2 * n) "_law_any_statement" a__law_any_statement (sp__law_any_statement K n) ∧ Has P w K mg base (13 + 2 * n + 1) "_law_any_block" a__law_any_block (sp__law_any_block K n) := by
   intro n
   induction n with
   | zero =>
    have h0 : Has P w K mg base (13 + 2 * 0) "_law_any_statement" a__law_any_statement (sp__law_any_statement K 0) := (by
    have hv : ∀ vs H Q E, ¬ (sp__law_any_statement K 0) vs H Q E := fun vs H Q E h => by obtain ⟨_, _, _, _, h0, _⟩ := h; omega
    obtain ⟨fd, F⟩ := (c.def_ 38 : ∃ fd, FunD K "_law_any_statement" "_law_any_statement" (defArgs s__law_any_statement) (defBody s__law_any_statement) (defScope s__law_any_statement) [] [] (He.ga K "_law_any_statement") fd)
    exact ⟨fd, FunD.ok F sc__law_any_statement (fun vs H Q E h => (hv _ _ _ _ h).elim) (fun cdv A outer s H vs Q E hr h => (hv _ _ _ _ h).elim), FunD.bindsN F (ps := a__law_any_statement) (fun _ _ _ _ _ _ us hl => match us, hl with | [_, _, _], _ => rfl), F.kp, (He.glo_ok X G (c.fact 28))⟩ : Has P w K mg base (0 + 1) "_law_any_statement" a__law_any_statement (sp__law_any_statement K 0)).up (by omega)
    exact ⟨h0, (ok__law_any_block (k := 13 + 2 * 0) T (c.def_ 39 : ∃ fd, FunD K "_law_any_block" "_law_any_block" (defArgs s__law_any_block) (defBody s__law_any_block) (defScope s__law_any_block) [] [] (He.ga K "_law_any_block") fd) (He.glo_ok X G (c.fact 29)) (H__law_next.up (by omega)) h0 (fun vs H Q E h => by obtain ⟨_, _, _, rfl, _⟩ := h; rfl) (pu__law_any_block) : Has P w K mg base (13 + 2 * 0 + 1) "_law_any_block" a__law_any_block (sp__law_any_block K 0))⟩
   | succ n ih =>
    obtain ⟨i1, i2⟩ := ih
    have h1 : Has P w K mg base (13 + 2 * (n + 1)) "_law_any_statement" a__law_any_statement (sp__law_any_statement K (n + 1)) := (ok__law_any_statement (k := 13 + 2 * n + 1) T (c.def_ 38 : ∃ fd, FunD K "_law_any_statement" "_law_any_statement" (defArgs s__law_any_statement) (defBody s__law_any_statement) (defScope s__law_any_statement) [] [] (He.ga K "_law_any_statement") fd) (He.glo_ok X G (c.fact 28)) (H__law_next.up (by omega)) ((H__law_any_condition 3).up (by omega)) (i2.up (by omega)) (H__law_any_call.up (by omega)) (H__law_name.up (by omega)) ((H__law_any_expression 4).up (by omega)) (fun vs H Q E h => by obtain ⟨_, _, _, rfl, _⟩ := h; rfl) (pu__law_any_statement) : Has P w K mg base (13 + 2 * n + 1 + 1) "_law_any_statement" a__law_any_statement (sp__law_any_statement K (n + 1))).up (by omega)
    exact ⟨h1, (ok__law_any_block (k := 13 + 2 * (n + 1)) T (c.def_ 39 : ∃ fd, FunD K "_law_any_block" "_law_any_block" (defArgs s__law_any_block) (defBody s__law_any_block) (defScope s__law_any_block) [] [] (He.ga K "_law_any_block") fd) (He.glo_ok X G (c.fact 29)) (H__law_next.up (by omega)) h1 (fun vs H Q E h => by obtain ⟨_, _, _, rfl, _⟩ := h; rfl) (pu__law_any_block) : Has P w K mg base (13 + 2 * (n + 1) + 1) "_law_any_block" a__law_any_block (sp__law_any_block K (n + 1)))⟩
  have H__law_any_statement : ∀ n, Has P w K mg base (13 + 2 * n) "_law_any_statement" a__law_any_statement (sp__law_any_statement K n) := fun n => (HP__law_any_statement n).1
  have H__law_any_block : ∀ n, Has P w K mg base (13 + 2 * n + 1) "_law_any_block" a__law_any_block (sp__law_any_block K n) := fun n => (HP__law_any_statement n).2
  have H__law_any_program : Has P w K mg base (23) "_law_any_program" a__law_any_program (sp__law_any_program K) := ok__law_any_program (k := 22) T (c.def_ 40 : ∃ fd, FunD K "_law_any_program" "_law_any_program" (defArgs s__law_any_program) (defBody s__law_any_program) (defScope s__law_any_program) [] [] (He.ga K "_law_any_program") fd) (He.glo_ok X G (c.fact 30)) (H__law_next.up (by omega)) (H__law_name.up (by omega)) ((H__law_any_block 4).up (by omega)) (fun vs H Q E h => by obtain ⟨_, _, rfl, _⟩ := h; rfl) (pu__law_any_program)
  have H__law_listed : Has P w K mg base (1) "_law_listed" a__law_listed (sp__law_listed K) := ok__law_listed (k := 0) T (c.def_ 41 : ∃ fd, FunD K "_law_listed" "_law_listed" (defArgs s__law_listed) (defBody s__law_listed) (defScope s__law_listed) [] [] (He.ga K "_law_listed") fd) (He.glo_ok X G (c.fact 31))  (fun vs H Q E h => by obtain ⟨_, _, _, rfl, _⟩ := h; rfl) (pu__law_listed)
  have H__law_expression_words : ∀ n, Has P w K mg base (1 + n) "_law_expression_words" a__law_expression_words (sp__law_expression_words K n) := by
   intro n
   induction n with
   | zero => exact (by
    have hv : ∀ vs H Q E, ¬ (sp__law_expression_words K 0) vs H Q E := fun vs H Q E h => by obtain ⟨_, _, _, _, h0, _⟩ := h; omega
    obtain ⟨fd, F⟩ := (c.def_ 42 : ∃ fd, FunD K "_law_expression_words" "_law_expression_words" (defArgs s__law_expression_words) (defBody s__law_expression_words) (defScope s__law_expression_words) [] [] (He.ga K "_law_expression_words") fd)
    exact ⟨fd, FunD.ok F sc__law_expression_words (fun vs H Q E h => (hv _ _ _ _ h).elim) (fun cdv A outer s H vs Q E hr h => (hv _ _ _ _ h).elim), FunD.bindsN F (ps := a__law_expression_words) (fun _ _ _ _ _ _ us hl => match us, hl with | [_], _ => rfl), F.kp, (He.glo_ok X G (c.fact 32))⟩ : Has P w K mg base (0 + 1) "_law_expression_words" a__law_expression_words (sp__law_expression_words K 0)).up (by omega)
   | succ n ih => exact (ok__law_expression_words (k := 1 + n) T (c.def_ 42 : ∃ fd, FunD K "_law_expression_words" "_law_expression_words" (defArgs s__law_expression_words) (defBody s__law_expression_words) (defScope s__law_expression_words) [] [] (He.ga K "_law_expression_words") fd) (He.glo_ok X G (c.fact 32)) (ih.up (by omega)) (fun vs H Q E h => by obtain ⟨_, _, _, rfl, _⟩ := h; rfl) (pu__law_expression_words) : Has P w K mg base (1 + n + 1) "_law_expression_words" a__law_expression_words (sp__law_expression_words K (n + 1)))
  have H__law_condition_words : ∀ n, Has P w K mg base (6 + n) "_law_condition_words" a__law_condition_words (sp__law_condition_words K n) := by
   intro n
   induction n with
   | zero => exact (by
    have hv : ∀ vs H Q E, ¬ (sp__law_condition_words K 0) vs H Q E := fun vs H Q E h => by obtain ⟨_, _, _, _, h0, _⟩ := h; omega
    obtain ⟨fd, F⟩ := (c.def_ 43 : ∃ fd, FunD K "_law_condition_words" "_law_condition_words" (defArgs s__law_condition_words) (defBody s__law_condition_words) (defScope s__law_condition_words) [] [] (He.ga K "_law_condition_words") fd)
    exact ⟨fd, FunD.ok F sc__law_condition_words (fun vs H Q E h => (hv _ _ _ _ h).elim) (fun cdv A outer s H vs Q E hr h => (hv _ _ _ _ h).elim), FunD.bindsN F (ps := a__law_condition_words) (fun _ _ _ _ _ _ us hl => match us, hl with | [_], _ => rfl), F.kp, (He.glo_ok X G (c.fact 33))⟩ : Has P w K mg base (0 + 1) "_law_condition_words" a__law_condition_words (sp__law_condition_words K 0)).up (by omega)
   | succ n ih => exact (ok__law_condition_words (k := 6 + n) T (c.def_ 43 : ∃ fd, FunD K "_law_condition_words" "_law_condition_words" (defArgs s__law_condition_words) (defBody s__law_condition_words) (defScope s__law_condition_words) [] [] (He.ga K "_law_condition_words") fd) (He.glo_ok X G (c.fact 33)) (ih.up (by omega)) ((H__law_expression_words 4).up (by omega)) (fun vs H Q E h => by obtain ⟨_, _, _, rfl, _⟩ := h; rfl) (pu__law_condition_words) : Has P w K mg base (6 + n + 1) "_law_condition_words" a__law_condition_words (sp__law_condition_words K (n + 1)))
  have HP__law_statement_words : ∀ n, Has P w K mg base (10 + 2 * n) "_law_statement_words" a__law_statement_words (sp__law_statement_words K n) ∧ Has P w K mg base (10 + 2 * n + 1) "_law_block_words" a__law_block_words (sp__law_block_words K n) := by
   intro n
   induction n with
   | zero =>
    have h0 : Has P w K mg base (10 + 2 * 0) "_law_statement_words" a__law_statement_words (sp__law_statement_words K 0) := (by
    have hv : ∀ vs H Q E, ¬ (sp__law_statement_words K 0) vs H Q E := fun vs H Q E h => by obtain ⟨_, _, _, _, h0, _⟩ := h; omega
    obtain ⟨fd, F⟩ := (c.def_ 44 : ∃ fd, FunD K "_law_statement_words" "_law_statement_words" (defArgs s__law_statement_words) (defBody s__law_statement_words) (defScope s__law_statement_words) [] [] (He.ga K "_law_statement_words") fd)
    exact ⟨fd, FunD.ok F sc__law_statement_words (fun vs H Q E h => (hv _ _ _ _ h).elim) (fun cdv A outer s H vs Q E hr h => (hv _ _ _ _ h).elim), FunD.bindsN F (ps := a__law_statement_words) (fun _ _ _ _ _ _ us hl => match us, hl with | [_], _ => rfl), F.kp, (He.glo_ok X G (c.fact 34))⟩ : Has P w K mg base (0 + 1) "_law_statement_words" a__law_statement_words (sp__law_statement_words K 0)).up (by omega)
    exact ⟨h0, (ok__law_block_words (k := 10 + 2 * 0) T (c.def_ 45 : ∃ fd, FunD K "_law_block_words" "_law_block_words" (defArgs s__law_block_words) (defBody s__law_block_words) (defScope s__law_block_words) [] [] (He.ga K "_law_block_words") fd) (He.glo_ok X G (c.fact 35)) h0 (fun vs H Q E h => by obtain ⟨_, _, _, rfl, _⟩ := h; rfl) (pu__law_block_words) : Has P w K mg base (10 + 2 * 0 + 1) "_law_block_words" a__law_block_words (sp__law_block_words K 0))⟩
   | succ n ih =>
    obtain ⟨i1, i2⟩ := ih
    have h1 : Has P w K mg base (10 + 2 * (n + 1)) "_law_statement_words" a__law_statement_words (sp__law_statement_words K (n + 1)) := (ok__law_statement_words (k := 10 + 2 * n + 1) T (c.def_ 44 : ∃ fd, FunD K "_law_statement_words" "_law_statement_words" (defArgs s__law_statement_words) (defBody s__law_statement_words) (defScope s__law_statement_words) [] [] (He.ga K "_law_statement_words") fd) (He.glo_ok X G (c.fact 34)) ((H__law_expression_words 4).up (by omega)) ((H__law_condition_words 3).up (by omega)) (H__law_listed.up (by omega)) (i2.up (by omega)) (fun vs H Q E h => by obtain ⟨_, _, _, rfl, _⟩ := h; rfl) (pu__law_statement_words) : Has P w K mg base (10 + 2 * n + 1 + 1) "_law_statement_words" a__law_statement_words (sp__law_statement_words K (n + 1))).up (by omega)
    exact ⟨h1, (ok__law_block_words (k := 10 + 2 * (n + 1)) T (c.def_ 45 : ∃ fd, FunD K "_law_block_words" "_law_block_words" (defArgs s__law_block_words) (defBody s__law_block_words) (defScope s__law_block_words) [] [] (He.ga K "_law_block_words") fd) (He.glo_ok X G (c.fact 35)) h1 (fun vs H Q E h => by obtain ⟨_, _, _, rfl, _⟩ := h; rfl) (pu__law_block_words) : Has P w K mg base (10 + 2 * (n + 1) + 1) "_law_block_words" a__law_block_words (sp__law_block_words K (n + 1)))⟩
  have H__law_statement_words : ∀ n, Has P w K mg base (10 + 2 * n) "_law_statement_words" a__law_statement_words (sp__law_statement_words K n) := fun n => (HP__law_statement_words n).1
  have H__law_block_words : ∀ n, Has P w K mg base (10 + 2 * n + 1) "_law_block_words" a__law_block_words (sp__law_block_words K n) := fun n => (HP__law_statement_words n).2
  have H__law_program_words : Has P w K mg base (20) "_law_program_words" a__law_program_words (sp__law_program_words K) := ok__law_program_words (k := 19) T (c.def_ 46 : ∃ fd, FunD K "_law_program_words" "_law_program_words" (defArgs s__law_program_words) (defBody s__law_program_words) (defScope s__law_program_words) [] [] (He.ga K "_law_program_words") fd) (He.glo_ok X G (c.fact 36)) (H__law_listed.up (by omega)) ((H__law_block_words 4).up (by omega)) (fun vs H Q E h => by obtain ⟨_, _, rfl, _⟩ := h; rfl) (pu__law_program_words)
  exact ⟨((H__law_any_program).up (by omega)), ((H__law_program_words).up (by omega)), ((H_write).up (by omega)), ((H__law_same 17).up (by omega)), ((H__law_text).up (by omega)), ((H_parse).up (by omega)), ((H_tokens).up (by omega))⟩
theorem gf_of {K : PySem.W.Frag} {mg : Str → Option Value} {h : Heap} (X : K.In h) (G : h.Ns mainGlobals mg) (c : He.SaysD fa fn K) : GF K mg where
  len := He.free_ok X G (c.fact 43)
  tuple_ := He.free_ok X G (c.fact 44)
  str_ := He.free_ok X G (c.fact 45)
  int_ := He.free_ok X G (c.fact 46)
  abs_ := He.free_ok X G (c.fact 47)
  range := He.free_ok X G (c.fact 48)
  isinstance_ := He.free_ok X G (c.fact 49)
  repr_ := He.free_ok X G (c.fact 50)
  bool_ := He.free_ok X G (c.fact 51)
  LETTERS := by
    obtain ⟨t, h⟩ := He.str_ok X G (c.fact 52)
    exact ⟨t, h.trans (congrArg (fun z => some (Value.str z t)) (by decide +kernel))⟩
  DIGITS := by
    obtain ⟨t, h⟩ := He.str_ok X G (c.fact 53)
    exact ⟨t, h.trans (congrArg (fun z => some (Value.str z t)) (by decide +kernel))⟩
  WORD_CHARACTERS := by
    obtain ⟨t, h⟩ := He.str_ok X G (c.fact 54)
    exact ⟨t, h.trans (congrArg (fun z => some (Value.str z t)) (by decide +kernel))⟩
  WORD_LENGTH := He.int_ok X G (c.fact 55)
  LARGEST := He.int_ok X G (c.fact 56)
  SIGNS := He.glo_ok X G (c.fact 57)
  RESERVED := He.glo_ok X G (c.fact 58)
  OPERATIONS := He.glo_ok X G (c.fact 59)
  RELATIONS := He.glo_ok X G (c.fact 60)
  Reader := He.glo_ok X G (c.fact 42)
  clR := He.cls_ok (c.fact 61)
  mkR := He.mkr_ok (c.fact 74)
theorem rdcls_of {K : PySem.W.Frag} (c : He.SaysD fa fn K) : RdCls K where
  cl := He.cls_ok (c.fact 61)
  found := He.noat_ok (c.fact 62)
  end_ := He.noat_ok (c.fact 63)
  at_ := He.noat_ok (c.fact 64)
theorem facts {P : Program} {w : World} {K : PySem.W.Frag} {h : Heap} {mg : Str → Option Value} {f : Addr} (X : K.In h) (G : h.Ns mainGlobals mg) (hfa : mg ("law" : Str) = some (.ref f)) (c0 : obsM fa fn ex K = valM fn) :
    ∃ fd : FuncData, (∀ (s : Shared) (v : Value), BindsTo s fd ⟨[v], []⟩ [("_law_script", v)]) ∧ ∀ base : Heap, K.In base → base.Ns mainGlobals mg → RunQuiet P w K mg base 31 f fd a_law (sp_law K) := by
  have c : He.SaysD fa fn K := congrArg (fun z : AlM => z.1) c0
  have ce : ex K = true := congrArg (fun z : AlM => z.2) c0
  obtain ⟨t1, ce⟩ := Bool.and_eq_true_iff.mp (show (He.tupB K "SIGNS" (v_SIGNS.map He.Dv.str) && (He.tupB K "RESERVED" (v_RESERVED.map He.Dv.str) && (He.tupB K "OPERATIONS" (v_OPERATIONS.map He.Dv.str) && (He.tupB K "RELATIONS" (v_RELATIONS.map He.Dv.str))))) = true from ce)
  obtain ⟨t2, ce⟩ := Bool.and_eq_true_iff.mp ce
  obtain ⟨t3, t4⟩ := Bool.and_eq_true_iff.mp ce
  have tS := tab (ts := signs) t1 (by decide +kernel)
  have tR := tab (ts := resv) t2 (by decide +kernel)
  have tO := tab (ts := [sPl, sMi, sMu, sDi]) t3 (by decide +kernel)
  have tE := tab (ts := [sLt, sLe, sEE, sNe]) t4 (by decide +kernel)
  have T := gf_of X G c
  have C := rdcls_of c
  have el : mg ("law" : Str) = some (.ref (He.ga K "law")) := He.glo_ok X G (c.fact 41)
  have ef : f = He.ga K "law" := by
    rw [hfa] at el
    injection el with el
    injection el
  subst ef
  obtain ⟨fd, F⟩ := (c.def_ 51 : ∃ fd, FunD K "law" "law" (defArgs s_law) (defBody s_law) (defScope s_law) [] [] (He.ga K "law") fd)
  refine ⟨fd, ?_, fun base _ _ => ?_⟩
  · exact fun s v => FunD.bindsA F (ps := a_law) (fun _ _ _ _ _ _ us hl => match us, hl with | [_], _ => rfl) s [v] rfl
  · obtain ⟨h1, h2, h3, h4, h5, h6, h7⟩ := chain (P := P) (w := w) (base := base) X G c T C tS tR tO tE
    refine runQuiet_of F sc_law fun cdv A outer s H vs Q quiet hr hsp => ?_
    exact ⟨_, PSs.nox (de_law T hr quiet h1 h2 h3 h4 h5 h6 h7), pu_law vs H Q E0 hsp⟩
end Cc
end
open PySem PySem.W PySem.Calls PyProof.Rows
theorem PySem.Challenge.cw_carryclaim_k04_whole_written_programs_holds : PySem.Challenge.rw_carryclaim_k04_whole_written_programs.Holds := by
  w_on; o_law
  refine HandSHeadRun.head_any (r := Cc.R) (q := Cc.qv) (H := Cc.hk) (ob := Cc.ob) (M := 6000) (loose := Cc.loose) (d := HandSHeadRun.topDef Cc.R.prog 58) (kwd := []) Cc.ob_eq
    (by kernel_rfl) (fun s => by kernel_rfl) Cc.run (by kernel_rfl) (by kernel_rfl) (by kernel_rfl) (by rfl) (by first | assumption | decide +kernel) (by decide +kernel) ⟨rfl, rfl, rfl, rfl, rfl, by decide +kernel⟩ ?hw ?hc
  case hw => w_witness2
  case hc =>
    refine Cc.walk_quiet (l := PySem.Challenge.rw_carryclaim_k04_whole_written_programs) (n := 63) (k := 31) (x := "_law_script") rfl (by decide) (by kernel_rfl) ⟨rfl, by decide, by decide⟩ ?F
    intro w mg fa h Y G hmg0
    obtain ⟨K, KX, c⟩ := Y
    have hmg : mg ("law" : PySem.Str) = some (.ref fa) := by
      have e : (HandSHeadRun.topDef Cc.R.prog 58).name = ("law" : PySem.Str) := by kernel_rfl
      rw [← e]
      exact hmg0
    obtain ⟨fd, hb, hF⟩ := Cc.facts (P := (PySem.Challenge.rw_carryclaim_k04_whole_written_programs).prog) (w := w) KX G hmg c
    exact ⟨K, fd, Cc.sp_law K, KX, hb, fun H a ns hl _ hS => ⟨a, ns, rfl, hS, fun _ => rfl⟩, hF⟩
