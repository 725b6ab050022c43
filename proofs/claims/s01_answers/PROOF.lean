import PyProof.Rows.All
import Wide.All
import OpenK.AllK
import Wide.FinOn
import Open.SpecLaws
import KE.OsGo
import HandS.ForSpec
import HandS.ForMost
import HandS.NoneIn
import PySem.Challenge.RW_headcolumns_s01_answers
set_option Elab.async false
set_option linter.all false
set_option maxRecDepth 100000
set_option maxHeartbeats 4000000
/-! # headcolumns: wrappers over the hand layer -/
namespace HC
open PySem PySem.Spec PyProof.Rows L2

/-- where the four classes stand -/
structure CA where
  sh : Addr
  st : Addr
  pa : Addr
  se : Addr

abbrev aAdd : R2 := rI0 fun i j => .int (i + j)
abbrev aSub : R2 := rI0 fun i j => .int (i - j)
abbrev aMul : R2 := rI CMul fun i j => .int (i * j)
abbrev uNeg : V → Hp → VK → Prop := rU fun i => .int (-i)
abbrev cLt : R2 := rI0 fun i j => .bl (decide (i < j))
abbrev cLe : R2 := rI0 fun i j => .bl (decide (i ≤ j))
abbrev cGt : R2 := rI0 fun i j => .bl (decide (j < i))
abbrev cGe : R2 := rI0 fun i j => .bl (decide (j ≤ i))
abbrev cIsN : R2 := fun x y H Q => y = .non ∧ Q (.bl (decide (x = .non))) H
abbrev cNotN : R2 := fun x y H Q => y = .non ∧ Q (.bl (!decide (x = .non))) H
abbrev rLenL (K : PySem.W.Frag) : List V → Hp → VK → Prop := fun xs H Q => ∃ p ys, xs = [.ref p] ∧ (SqL K H p ys ∨ SqT K H p ys) ∧ Q (.int ys.length) H
abbrev rListOf (K : PySem.W.Frag) : List V → Hp → VK → Prop := fun xs H Q => ∃ p ys, xs = [.ref p] ∧ (SqL K H p ys ∨ SqT K H p ys) ∧ ∀ l, H l = none → Q (.ref l) (upd H l (.lst ys))
abbrev rMax2 : List V → Hp → VK → Prop := fun xs H Q => ∃ i j, xs = [.int i, .int j] ∧ Q (.int (if j > i then j else i)) H

/-- the attribute f of the instance at a reads v -/
def Fd (K : PySem.W.Frag) (H : Hp) (a : Addr) (f : Str) (v : V) : Prop := ∃ C dx fs, H a = some (.ins C dx fs) ∧ Cls K C ∧ NoAttr K C f ∧ fs.lookup f = some v
def tF (K : PySem.W.Frag) (ta : TE) (f : Str) : TE := fun σ H Q => ta σ H fun x H1 => ∃ a v, x = .ref a ∧ Fd K H1 a f v ∧ Q v H1
section
variable {X : Cx}
theorem PE.weaken {e : Expr} {t u : TE} (h : PE X e t) (k : ∀ σ H Q, u σ H Q → t σ H Q) : PE X e u := ⟨fun pins s σ H Q I q => h.run pins s σ H Q I (k σ H Q q)⟩
/-- an expression's reading is monotone enough: the wish is weakened by running -/
theorem pe_f {e : Expr} {ta : TE} {f : Str} {pos : Pos} (he : PE X e ta) (hb : attributeBase e f X.env (eval e X.env) = eval e X.env) : PE X (.Attribute e f pos) (tF X.K ta f) := by
  refine ⟨fun pins s σ H Q I h => ?_⟩
  have he' : PE X e (fun σ0 H0 Q0 => ta σ0 H0 Q0) := he
  refine attr_of hb (thn (he.run pins s σ H _ I h) fun u s1 ⟨x, H1, I1, rx, a, v, ex, fd, q⟩ => ?_)
  obtain ⟨C, dx, fs, e1, c1, n1, l1⟩ := fd
  subst ex
  obtain rfl : u = Value.ref a := rx
  exact getattr_ok I1 e1 c1 n1 l1 fun u' s2 I2 ru => ⟨v, H1, I2, ru, q⟩
theorem pe_cst {x : Str} {n : Int} {pos : Pos} (hg : Gl X x) (h : ∃ t, X.mg x = some (.int n t)) (hd : (x == ("__debug__" : Str)) = false := by decide) : PE X (.Name x pos) (tC (.int n)) :=
  let ⟨t, e⟩ := h
  pe_glob hg e ⟨t, rfl⟩ hd
end

/-- a def as it stands behind the top, and its promise -/
structure Df (P : Program) (w : World) (K : PySem.W.Frag) (mg : Str → Option Value) (base : Heap) (x : Str) (ps : List Str) (k : Nat) (sp : Sp) : Prop where
  ex : ∃ (f : Addr) (fd : FuncData), mg x = some (.ref f) ∧ PySem.W.keepIn K (.ref f) = true ∧ Binds K fd ps [] ∧ FnOk P w K mg base CX0 k f fd ps sp
/-- an __init__ -/
structure Idf (P : Program) (w : World) (K : PySem.W.Frag) (mg : Str → Option Value) (base : Heap) (C : Addr) (ps : List Str) (k : Nat) (sp : Sp) : Prop where
  ex : ∃ (f : Addr) (fd : FuncData), Mk K C f ∧ Binds K fd ps [] ∧ FnOk P w K mg base CX0 k f fd ps sp
/-- a method -/
structure Mdf (P : Program) (w : World) (K : PySem.W.Frag) (mg : Str → Option Value) (base : Heap) (C : Addr) (m : Str) (ps : List Str) (k : Nat) (sp : Sp) : Prop where
  ex : ∃ (f : Addr) (fd : FuncData), Meth K C m f ∧ Binds K fd ps [] ∧ FnOk P w K mg base CX0 k f fd ps sp
section
variable {X : Cx} {k : Nat} {ps : List Str} {sp : Sp} {C : Addr} {x m : Str} {p pos apos : Pos} {e o : Expr} {es : List Expr} {ta : TE} {t : TA}
theorem pe_df (D : Df X.prog X.w X.K X.mg X.base x ps k sp) (hr : Room k X.A) (hg : Gl X x) (ha : PA X (e :: es) t) (hdb : (x == ("__debug__" : Str)) = false := by decide)
    (he : starEach (e :: es) X.env = (false, eval e X.env) :: starEach es X.env := by rfl) (hpl : (backTo pos (starEach es X.env)).any (·.1) = false := by rfl) :
    PE X (.Call (.Name x p) (e :: es) [] pos) (tCall sp [] E0 t) := by
  obtain ⟨f, fd, h1, h2, h3, h4⟩ := D.ex
  exact pe_call h4 hr hg h1 h2 h3 .nil pass0 ha hdb he hpl
theorem pe_df0 (D : Df X.prog X.w X.K X.mg X.base x ps k sp) (hr : Room k X.A) (hg : Gl X x) (hdb : (x == ("__debug__" : Str)) = false := by decide) :
    PE X (.Call (.Name x p) [] [] pos) (tCall sp [] E0 tNil) := by
  obtain ⟨f, fd, h1, h2, h3, h4⟩ := D.ex
  exact pe_call0 h4 hr hg h1 h2 h3 .nil pass0 hdb
theorem pe_id (D : Idf X.prog X.w X.K X.mg X.base C ps k sp) (hr : Room (k + 1) X.A) (hg : Gl X x) (hm : X.mg x = some (.ref C)) (ha : PA X (e :: es) t) (hdb : (x == ("__debug__" : Str)) = false := by decide)
    (he : starEach (e :: es) X.env = (false, eval e X.env) :: starEach es X.env := by rfl) (hpl : (backTo pos (starEach es X.env)).any (·.1) = false := by rfl) :
    PE X (.Call (.Name x p) (e :: es) [] pos) (tMake C sp [] E0 t) := by
  obtain ⟨f, fd, h1, h2, h3⟩ := D.ex
  exact pe_make h1 h3 hr hg hm h2 .nil pass0 ha hdb he hpl
theorem pe_id0 (D : Idf X.prog X.w X.K X.mg X.base C ps k sp) (hr : Room (k + 1) X.A) (hg : Gl X x) (hm : X.mg x = some (.ref C)) (hdb : (x == ("__debug__" : Str)) = false := by decide) :
    PE X (.Call (.Name x p) [] [] pos) (tMake C sp [] E0 tNil) := by
  obtain ⟨f, fd, h1, h2, h3⟩ := D.ex
  exact pe_make0 h1 h3 hr hg hm h2 .nil pass0 hdb
theorem pe_md {pl : Sem Bool} (he : PE X o ta) (c : Cls X.K C) (D : Mdf X.prog X.w X.K X.mg X.base C m ps k sp) (hr : Room k X.A) (ha : PA X (e :: es) t)
    (hst : starEach (e :: es) X.env = (false, eval e X.env) :: starEach es X.env := by rfl) (hpl : (backTo pos (starEach es X.env)).any (·.1) = false := by rfl)
    (ht : eval (.Call (.Attribute o m apos) (e :: es) [] pos) X.env = (do
      let ov ← eval o X.env
      standAt apos.atName
      let (f, first) ← holding [ov] (getMethod ov m pl)
      callWith pos f first (backTo pos (starEach (e :: es) X.env)) (backToKw pos (keywordEach [] X.env))) := by rfl) :
    PE X (.Call (.Attribute o m apos) (e :: es) [] pos) (tMeth C m sp [] E0 ta t) := by
  obtain ⟨f, fd, h1, h2, h3⟩ := D.ex
  exact pe_meth (pl := pl) he c h1 h3 hr h2 .nil pass0 ha hst hpl ht
theorem pe_md0 {pl : Sem Bool} (he : PE X o ta) (c : Cls X.K C) (D : Mdf X.prog X.w X.K X.mg X.base C m ps k sp) (hr : Room k X.A)
    (ht : eval (.Call (.Attribute o m apos) [] [] pos) X.env = (do
      let ov ← eval o X.env
      standAt apos.atName
      let (f, first) ← holding [ov] (getMethod ov m pl)
      callWith pos f first (backTo pos (starEach [] X.env)) (backToKw pos (keywordEach [] X.env))) := by rfl) :
    PE X (.Call (.Attribute o m apos) [] [] pos) (tMeth C m sp [] E0 ta tNil) := by
  obtain ⟨f, fd, h1, h2, h3⟩ := D.ex
  exact pe_meth0 (pl := pl) he c h1 h3 hr h2 .nil pass0 ht
end

/-- the classes' facts -/
structure Kf (K : PySem.W.Frag) (c : CA) : Prop where
  clsh : Cls K c.sh
  clst : Cls K c.st
  clpa : Cls K c.pa
  clse : Cls K c.se
  nwidth : NoAttr K c.sh "width"
  nheight : NoAttr K c.sh "height"
  nindents : NoAttr K c.sh "indents"
  nturn : NoAttr K c.sh "turn"
  ngap : NoAttr K c.sh "gap"
  nwidths : NoAttr K c.sh "widths"
  ncut : NoAttr K c.sh "cut"
  nslines : NoAttr K c.st "lines"
  ncolumn : NoAttr K c.st "column"
  nrow : NoAttr K c.st "row"
  ndepth : NoAttr K c.pa "depth"
  ngroup : NoAttr K c.pa "group"
  nlead : NoAttr K c.pa "lead"
  ntext : NoAttr K c.pa "text"
  nsheet : NoAttr K c.se "sheet"
  nparagraphs : NoAttr K c.se "paragraphs"
  nlines : NoAttr K c.se "lines"
/-- .. and the names of the module -/
structure Txt (K : PySem.W.Frag) (mg : Str → Option Value) (c : CA) : Prop extends Kf K c where
  gsh : mg "Sheet" = some (.ref c.sh)
  gst : mg "Setting" = some (.ref c.st)
  gpa : mg "Paragraph" = some (.ref c.pa)
  gse : mg "Setter" = some (.ref c.se)
  b_len : mg "len" = none
  b_range : mg "range" = none
  b_sum : mg "sum" = none
  b_list : mg "list" = none
  b_max : mg "max" = none
  b_enumerate : mg "enumerate" = none
  kPLAIN : ∃ t, mg "PLAIN" = some (.int 0 t)
  kBLANK : ∃ t, mg "BLANK" = some (.int 1 t)
  kBREAK : ∃ t, mg "BREAK" = some (.int 2 t)
  kLEAST_HEIGHT : ∃ t, mg "LEAST_HEIGHT" = some (.int 3 t)
  kMOST_HEIGHT : ∃ t, mg "MOST_HEIGHT" = some (.int 1000 t)
  kMOST_GAP : ∃ t, mg "MOST_GAP" = some (.int 100 t)
  kMOST_WIDTH : ∃ t, mg "MOST_WIDTH" = some (.int 1000000 t)
  kMOST_WIDTHS : ∃ t, mg "MOST_WIDTHS" = some (.int 256 t)
  kMOST_CUT : ∃ t, mg "MOST_CUT" = some (.int 64 t)
  kMOST_DEPTH : ∃ t, mg "MOST_DEPTH" = some (.int 3 t)
  kMOST_TEXT : ∃ t, mg "MOST_TEXT" = some (.int 65535 t)
  kMOST_CHARACTERS : ∃ t, mg "MOST_CHARACTERS" = some (.int 262144 t)
  kMOST_LINES : ∃ t, mg "MOST_LINES" = some (.int 65536 t)
/-- the i-th statement of the program -/
def top (i : Nat) : Stmt := PySem.Challenge.pw_headcolumns_s01_answers.main.body.getD i (.Pass ⟨0, 0, 0, 0⟩)
abbrev s_Sheet_init : Stmt := inClass (top 10) 0
abbrev N_Sheet_init : List Str := ["self", "numbers", "widths", "cut"]
abbrev P_Sheet_init : List Str := ["self", "numbers", "widths", "cut"]
abbrev s_first_sheet : Stmt := top 11
abbrev N_first_sheet : List Str := []
abbrev P_first_sheet : List Str := []
abbrev s_sign_of : Stmt := top 12
abbrev N_sign_of : List Str := ["sheet", "character", "widths", "at"]
abbrev P_sign_of : List Str := ["sheet", "character"]
abbrev s_signs_of : Stmt := top 13
abbrev N_signs_of : List Str := ["sheet", "text", "known", "found", "character"]
abbrev P_signs_of : List Str := ["sheet", "text"]
abbrev s_width_of : Stmt := top 14
abbrev N_width_of : List Str := ["signs", "width", "kind"]
abbrev P_width_of : List Str := ["signs"]
abbrev s_room_of : Stmt := top 15
abbrev N_room_of : List Str := ["sheet", "depth", "is_first", "room"]
abbrev P_room_of : List Str := ["sheet", "depth", "is_first"]
abbrev s_are_right_widths : Stmt := top 16
abbrev N_are_right_widths : List Str := ["widths", "at"]
abbrev P_are_right_widths : List Str := ["widths"]
abbrev s_sheet_refusal : Stmt := top 17
abbrev N_sheet_refusal : List Str := ["sheet"]
abbrev P_sheet_refusal : List Str := ["sheet"]
abbrev s_Setting_init : Stmt := inClass (top 19) 0
abbrev N_Setting_init : List Str := ["self"]
abbrev P_Setting_init : List Str := ["self"]
abbrev s_Setting_put : Stmt := inClass (top 19) 1
abbrev N_Setting_put : List Str := ["self", "paragraph", "begin", "behind", "kind"]
abbrev P_Setting_put : List Str := ["self", "paragraph", "begin", "behind", "kind"]
abbrev s_Setting_leave : Stmt := inClass (top 19) 2
abbrev N_Setting_leave : List Str := ["self", "gap"]
abbrev P_Setting_leave : List Str := ["self", "gap"]
abbrev s_Setting_turn_column : Stmt := inClass (top 19) 3
abbrev N_Setting_turn_column : List Str := ["self"]
abbrev P_Setting_turn_column : List Str := ["self"]
abbrev s_main_of : Stmt := top 20
abbrev N_main_of : List Str := ["paragraphs", "number"]
abbrev P_main_of : List Str := ["paragraphs", "number"]
abbrev s_lead_kept : Stmt := top 21
abbrev N_lead_kept : List Str := ["sheet", "paragraph", "wide", "kept", "sign"]
abbrev P_lead_kept : List Str := ["sheet", "paragraph"]
abbrev s_rows_alone : Stmt := top 22
abbrev N_rows_alone : List Str := ["lines"]
abbrev P_rows_alone : List Str := ["lines"]
abbrev s_rows_needed : Stmt := top 23
abbrev N_rows_needed : List Str := ["paragraphs", "lines", "number", "at", "behind"]
abbrev P_rows_needed : List Str := ["paragraphs", "lines", "number", "at"]
abbrev s_begins_group : Stmt := top 24
abbrev N_begins_group : List Str := ["paragraphs", "number"]
abbrev P_begins_group : List Str := ["paragraphs", "number"]
abbrev s_set_line : Stmt := top 25
abbrev N_set_line : List Str := ["sheet", "paragraphs", "lines", "number", "at", "setting", "main", "begin", "behind"]
abbrev P_set_line : List Str := ["sheet", "paragraphs", "lines", "number", "at", "setting"]
abbrev s_set_all : Stmt := top 26
abbrev N_set_all : List Str := ["sheet", "paragraphs", "lines", "setting", "number", "at"]
abbrev P_set_all : List Str := ["sheet", "paragraphs", "lines"]
abbrev s_text_end : Stmt := top 28
abbrev N_text_end : List Str := ["signs", "end", "place", "sign"]
abbrev P_text_end : List Str := ["signs"]
abbrev s_line_begin : Stmt := top 29
abbrev N_line_begin : List Str := ["signs", "place", "at"]
abbrev P_line_begin : List Str := ["signs", "place"]
abbrev s_is_break : Stmt := top 30
abbrev N_is_break : List Str := ["signs", "end", "place"]
abbrev P_is_break : List Str := ["signs", "end", "place"]
abbrev s_best_or : Stmt := top 32
abbrev N_best_or : List Str := ["best", "last"]
abbrev P_best_or : List Str := ["best", "last"]
abbrev s_line_end : Stmt := top 31
abbrev N_line_end : List Str := ["signs", "end", "begin", "room", "wide", "last", "best", "place"]
abbrev P_line_end : List Str := ["signs", "end", "begin", "room"]
abbrev s_text_lines : Stmt := top 33
abbrev N_text_lines : List Str := ["sheet", "depth", "signs", "found", "end", "begin", "behind"]
abbrev P_text_lines : List Str := ["sheet", "depth", "signs"]
abbrev s_Paragraph_init : Stmt := inClass (top 38) 0
abbrev N_Paragraph_init : List Str := ["self", "numbers"]
abbrev P_Paragraph_init : List Str := ["self", "numbers"]
abbrev s_is_right : Stmt := top 39
abbrev N_is_right : List Str := ["paragraph", "before"]
abbrev P_is_right : List Str := ["paragraph", "before"]
abbrev s_first_wrong : Stmt := top 40
abbrev N_first_wrong : List Str := ["paragraphs", "before", "number", "paragraph"]
abbrev P_first_wrong : List Str := ["paragraphs"]
abbrev s_are_blanks : Stmt := top 41
abbrev N_are_blanks : List Str := ["signs", "sign"]
abbrev P_are_blanks : List Str := ["signs"]
abbrev s_first_blank : Stmt := top 42
abbrev N_first_blank : List Str := ["sheet", "paragraphs", "number", "paragraph"]
abbrev P_first_blank : List Str := ["sheet", "paragraphs"]
abbrev s_all_lines : Stmt := top 43
abbrev N_all_lines : List Str := ["sheet", "paragraphs", "found", "paragraph"]
abbrev P_all_lines : List Str := ["sheet", "paragraphs"]
abbrev s_first_none : Stmt := top 44
abbrev N_first_none : List Str := ["row", "number", "item"]
abbrev P_first_none : List Str := ["row"]
abbrev s_character_count : Stmt := top 45
abbrev N_character_count : List Str := ["paragraphs", "paragraph"]
abbrev P_character_count : List Str := ["paragraphs"]
abbrev s_Setter_init : Stmt := inClass (top 48) 0
abbrev N_Setter_init : List Str := ["self"]
abbrev P_Setter_init : List Str := ["self"]
abbrev s_Setter_take_sheet : Stmt := inClass (top 48) 1
abbrev N_Setter_take_sheet : List Str := ["self", "numbers", "lists", "sheet", "refused"]
abbrev P_Setter_take_sheet : List Str := ["self", "numbers", "lists"]
abbrev s_Setter_take_paragraphs : Stmt := inClass (top 48) 2
abbrev N_Setter_take_paragraphs : List Str := ["self", "numbers", "lists", "paragraphs", "wrong", "lines", "found", "row"]
abbrev P_Setter_take_paragraphs : List Str := ["self", "numbers", "lists"]
abbrev s_Setter_tell_line : Stmt := inClass (top 48) 3
abbrev N_Setter_tell_line : List Str := ["self", "numbers", "lists", "line", "characters"]
abbrev P_Setter_tell_line : List Str := ["self", "numbers", "lists"]
abbrev s_Setter_tell_where : Stmt := inClass (top 48) 4
abbrev N_Setter_tell_where : List Str := ["self", "numbers", "lists", "paragraph", "place", "number", "line"]
abbrev P_Setter_tell_where : List Str := ["self", "numbers", "lists"]
abbrev s_Setter_tell_columns : Stmt := inClass (top 48) 5
abbrev N_Setter_tell_columns : List Str := ["self", "numbers", "lists"]
abbrev P_Setter_tell_columns : List Str := ["self", "numbers", "lists"]
abbrev s_answer : Stmt := top 49
abbrev N_answer : List Str := ["setter", "call", "numbers", "lists"]
abbrev P_answer : List Str := ["setter", "call", "numbers", "lists"]
abbrev s_lists_at : Stmt := top 50
abbrev N_lists_at : List Str := ["calls", "at", "lists", "place", "turn", "behind"]
abbrev P_lists_at : List Str := ["calls", "at"]
abbrev s_answers : Stmt := top 51
abbrev N_answers : List Str := ["calls", "setter", "found", "at", "behind", "numbers", "lists", "place", "told"]
abbrev P_answers : List Str := ["calls"]
def t_Sheet_init (K : PySem.W.Frag) (c : CA) : TS := (tSeq (sFld K (tVar 0) (tOp (rIxL K) (tVar 1) (tC (.int 0))) "width")
    (tSeq (sFld K (tVar 0) (tOp (rIxL K) (tVar 1) (tC (.int 1))) "height")
    (tSeq (sFld K (tVar 0) (tCB (rListOf K) (tCons (tSl (rSlL K) (tVar 1) (tPart (tC (.int 2))) (tPart (tC (.int 5)))) tNil)) "indents")
    (tSeq (sFld K (tVar 0) (tOp (rIxL K) (tVar 1) (tC (.int 5))) "turn")
    (tSeq (sFld K (tVar 0) (tOp (rIxL K) (tVar 1) (tC (.int 6))) "gap")
    (tSeq (sFld K (tVar 0) (tCB (rListOf K) (tCons (tVar 2) tNil)) "widths")
    (sFld K (tVar 0) (tCB (rListOf K) (tCons (tVar 3) tNil)) "cut")))))))
def t_first_sheet (K : PySem.W.Frag) (c : CA) (q_Sheet_init : Sp) : TS := (tRet (tMake c.sh q_Sheet_init [] E0 (tCons (tLst (tCons (tC (.int 0)) (tCons (tC (.int 3)) (tCons (tC (.int 0)) (tCons (tC (.int 0)) (tCons (tC (.int 0)) (tCons (tC (.int 0)) (tCons (tC (.int 0)) tNil)))))))) (tCons (tLst tNil) (tCons (tLst tNil) tNil)))))
def t_sign_of (K : PySem.W.Frag) (c : CA) : TS := (tSeq (tAsg (tF K (tVar 0) "widths") (gName 2))
    (tSeq (tFor (iRng3 (tCons (tC (.int 0)) (tCons (tCB (rLenL K) (tCons (tVar 2) tNil)) (tCons (tC (.int 4)) tNil)))) (gName 3) (tIfS (tTest (tChain cLe cLe (tOp (rIxL K) (tVar 2) (tVar 3)) (tVar 1) (tOp (rIxL K) (tVar 2) (tOp aAdd (tVar 3) (tC (.int 1)))))) (tRet (tTup (tCons (tOp (rIxL K) (tVar 2) (tOp aAdd (tVar 3) (tC (.int 2)))) (tCons (tOp (rIxL K) (tVar 2) (tOp aAdd (tVar 3) (tC (.int 3)))) tNil)))) tNext))
    (tRet (tTup (tCons (tC (.int 1)) (tCons (tC (.int 0)) tNil))))))
def t_signs_of (K : PySem.W.Frag) (c : CA) (q_sign_of : Sp) : TS := (tSeq (tAsg tDNewK (gName 2))
    (tSeq (tAsg (tLst tNil) (gName 3))
    (tSeq (tFor (iList K (tVar 1)) (gName 4) (tSeq (tIfS (tB (tDNotIn (tVar 4) (tVar 2))) (sDPut (tVar 2) (tVar 4) (tCall q_sign_of [] E0 (tCons (tVar 0) (tCons (tVar 4) tNil)))) tNext)
    (tDrop (tBM K "list" rAppend (tVar 3) (tCons (tDGet (tVar 2) (tVar 4)) tNil)))))
    (tRet (tVar 3)))))
def t_width_of (K : PySem.W.Frag) (c : CA) : TS := (tRet (tCB (rSum K) (tCons (tLc (iList K (tVar 0)) (gTup K 2 (gCons (gName 1) (gCons (gName 2) gNil))) tYes (tVar 1) [1, 2]) tNil)))
def t_room_of (K : PySem.W.Frag) (c : CA) : TS := (tSeq (tAsg (tOp aSub (tF K (tVar 0) "width") (tOp (rIxL K) (tF K (tVar 0) "indents") (tOp aSub (tVar 1) (tC (.int 1))))) (gName 3))
    (tSeq (tIfS (tNot (tB (tVar 2))) (tAsg (tOp aSub (tVar 3) (tF K (tVar 0) "turn")) (gName 3)) tNext)
    (tRet (tCB rMax2 (tCons (tVar 3) (tCons (tC (.int 0)) tNil))))))
def t_are_right_widths (K : PySem.W.Frag) (c : CA) : TS := (tSeq (tFor (iRng3 (tCons (tC (.int 0)) (tCons (tCB (rLenL K) (tCons (tVar 0) tNil)) (tCons (tC (.int 4)) tNil)))) (gName 1) (tIfS (tOr (tTest (tOp cGt (tOp (rIxL K) (tVar 0) (tVar 1)) (tOp (rIxL K) (tVar 0) (tOp aAdd (tVar 1) (tC (.int 1)))))) (tTest (tOp cGt (tOp (rIxL K) (tVar 0) (tOp aAdd (tVar 1) (tC (.int 3)))) (tC (.int 2))))) (tRet (tC (.bl false))) tNext))
    (tRet (tC (.bl true))))
def t_sheet_refusal (K : PySem.W.Frag) (c : CA) (q_are_right_widths q_width_of q_signs_of : Sp) : TS := (tSeq (tIfS (tOr (tTest (tOp cLt (tF K (tVar 0) "height") (tC (.int 3)))) (tOr (tTest (tOp cGt (tF K (tVar 0) "height") (tC (.int 1000)))) (tTest (tOp cGt (tF K (tVar 0) "gap") (tC (.int 100)))))) (tRet (tC (.int 1))) tNext)
    (tSeq (tIfS (tOr (tTest (tOp cGt (tF K (tVar 0) "width") (tC (.int 1000000)))) (tOr (tTest (tOp cGt (tCB (rLenL K) (tCons (tF K (tVar 0) "widths") tNil)) (tOp aMul (tC (.int 4)) (tC (.int 256))))) (tTest (tOp cGt (tCB (rLenL K) (tCons (tF K (tVar 0) "cut") tNil)) (tC (.int 64)))))) (tRet (tC (.int 1))) tNext)
    (tSeq (tIfS (tNot (tB (tCall q_are_right_widths [] E0 (tCons (tF K (tVar 0) "widths") tNil)))) (tRet (tC (.int 2))) tNext)
    (tSeq (tIfS (tTest (tOp cGt (tCall q_width_of [] E0 (tCons (tCall q_signs_of [] E0 (tCons (tVar 0) (tCons (tF K (tVar 0) "cut") tNil))) tNil)) (tF K (tVar 0) "width"))) (tRet (tC (.int 3))) tNext)
    (tRet (tC (.int 0)))))))
def t_Setting_init (K : PySem.W.Frag) (c : CA) : TS := (tSeq (sFld K (tVar 0) (tLst tNil) "lines")
    (tSeq (sFld K (tVar 0) (tC (.int 0)) "column")
    (sFld K (tVar 0) (tC (.int 0)) "row")))
def t_Setting_put (K : PySem.W.Frag) (c : CA) : TS := (tSeq (tDrop (tBM K "list" rAppend (tF K (tVar 0) "lines") (tCons (tTup (tCons (tF K (tVar 0) "column") (tCons (tF K (tVar 0) "row") (tCons (tVar 1) (tCons (tVar 2) (tCons (tVar 3) (tCons (tVar 4) tNil))))))) tNil)))
    (sFld K (tVar 0) (tOp aAdd (tF K (tVar 0) "row") (tC (.int 1))) "row"))
def t_Setting_leave (K : PySem.W.Frag) (c : CA) : TS := (tIfS (tTest (tOp cGt (tF K (tVar 0) "row") (tC (.int 0)))) (sFld K (tVar 0) (tOp aAdd (tF K (tVar 0) "row") (tVar 1)) "row") tNext)
def t_Setting_turn_column (K : PySem.W.Frag) (c : CA) : TS := (tSeq (sFld K (tVar 0) (tOp aAdd (tF K (tVar 0) "column") (tC (.int 1))) "column")
    (sFld K (tVar 0) (tC (.int 0)) "row"))
def t_main_of (K : PySem.W.Frag) (c : CA) : TS := (tSeq (tWhile (tTest (tOp rNe (tF K (tOp (rIxL K) (tVar 0) (tVar 1)) "depth") (tC (.int 1)))) (tAsg (tOp aSub (tVar 1) (tC (.int 1))) (gName 1)))
    (tRet (tVar 1)))
def t_lead_kept (K : PySem.W.Frag) (c : CA) (q_width_of q_signs_of : Sp) : TS := (tSeq (tAsg (tCall q_width_of [] E0 (tCons (tCall q_signs_of [] E0 (tCons (tVar 0) (tCons (tF K (tVar 0) "cut") tNil))) tNil)) (gName 2))
    (tSeq (tAsg (tC (.int 0)) (gName 3))
    (tSeq (tFor (iList K (tCall q_signs_of [] E0 (tCons (tVar 0) (tCons (tSl (rSlL K) (tF K (tVar 1) "text") tNoPart (tPart (tF K (tVar 1) "lead"))) tNil)))) (gName 4) (tSeq (tAsg (tOp aAdd (tVar 2) (tOp (rIxT K) (tVar 4) (tC (.int 0)))) (gName 2))
    (tSeq (tIfS (tTest (tOp cGt (tVar 2) (tF K (tVar 0) "width"))) (tRet (tVar 3)) tNext)
    (tAsg (tOp aAdd (tVar 3) (tC (.int 1))) (gName 3)))))
    (tRet (tVar 3)))))
def t_rows_alone (K : PySem.W.Frag) (c : CA) : TS := (tSeq (tIfS (tTest (tOp cGt (tCB (rLenL K) (tCons (tVar 0) tNil)) (tC (.int 1)))) (tRet (tC (.int 2))) tNext)
    (tRet (tC (.int 1))))
def t_rows_needed (K : PySem.W.Frag) (c : CA) (q_rows_alone : Sp) : TS := (tSeq (tIfS (tTest (tOp cGt (tVar 3) (tC (.int 0)))) (tRet (tC (.int 1))) tNext)
    (tSeq (tIfS (tTest (tOp cGt (tCB (rLenL K) (tCons (tOp (rIxL K) (tVar 1) (tVar 2)) tNil)) (tC (.int 1)))) (tRet (tC (.int 2))) tNext)
    (tSeq (tAsg (tOp aAdd (tVar 2) (tC (.int 1))) (gName 4))
    (tSeq (tIfS (tAnd (tTest (tOp rEq (tF K (tOp (rIxL K) (tVar 0) (tVar 2)) "depth") (tC (.int 1)))) (tAnd (tTest (tOp cLt (tVar 4) (tCB (rLenL K) (tCons (tVar 0) tNil)))) (tTest (tOp rNe (tF K (tOp (rIxL K) (tVar 0) (tVar 4)) "depth") (tC (.int 1)))))) (tRet (tOp aAdd (tC (.int 1)) (tCall q_rows_alone [] E0 (tCons (tOp (rIxL K) (tVar 1) (tVar 4)) tNil)))) tNext)
    (tRet (tC (.int 1)))))))
def t_begins_group (K : PySem.W.Frag) (c : CA) : TS := (tSeq (tIfS (tOr (tTest (tOp rEq (tVar 1) (tC (.int 0)))) (tTest (tOp rNe (tF K (tOp (rIxL K) (tVar 0) (tVar 1)) "depth") (tC (.int 1))))) (tRet (tC (.bl false))) tNext)
    (tRet (tOp rNe (tF K (tOp (rIxL K) (tVar 0) (tVar 1)) "group") (tF K (tOp (rIxL K) (tVar 0) (tOp aSub (tVar 1) (tC (.int 1)))) "group"))))
def t_set_line (K : PySem.W.Frag) (c : CA) (q_Setting_put q_Setting_turn_column q_rows_needed q_main_of q_lead_kept : Sp) : TS := (tSeq (tIfS (tTest (tOp cGt (tOp aAdd (tF K (tVar 5) "row") (tCall q_rows_needed [] E0 (tCons (tVar 1) (tCons (tVar 2) (tCons (tVar 3) (tCons (tVar 4) tNil)))))) (tF K (tVar 0) "height"))) (tSeq (tDrop (tMeth c.st "turn_column" q_Setting_turn_column [] E0 (tVar 5) tNil))
    (tIfS (tOr (tTest (tOp cGt (tVar 4) (tC (.int 0)))) (tTest (tOp rNe (tF K (tOp (rIxL K) (tVar 1) (tVar 3)) "depth") (tC (.int 1))))) (tSeq (tAsg (tCall q_main_of [] E0 (tCons (tVar 1) (tCons (tVar 3) tNil))) (gName 6))
    (tDrop (tMeth c.st "put" q_Setting_put [] E0 (tVar 5) (tCons (tVar 6) (tCons (tC (.int 0)) (tCons (tCall q_lead_kept [] E0 (tCons (tVar 0) (tCons (tOp (rIxL K) (tVar 1) (tVar 6)) tNil))) (tCons (tC (.int 1)) tNil))))))) tNext)) tNext)
    (tSeq (tAsg (tOp (rIxL K) (tOp (rIxL K) (tVar 2) (tVar 3)) (tVar 4)) (gTup K 2 (gCons (gName 7) (gCons (gName 8) gNil))))
    (tDrop (tMeth c.st "put" q_Setting_put [] E0 (tVar 5) (tCons (tVar 3) (tCons (tVar 7) (tCons (tVar 8) (tCons (tC (.int 0)) tNil))))))))
def t_set_all (K : PySem.W.Frag) (c : CA) (q_Setting_init q_begins_group q_Setting_leave q_set_line : Sp) : TS := (tSeq (tAsg (tMake c.st q_Setting_init [] E0 tNil) (gName 3))
    (tSeq (tFor (iRng1 (tCons (tCB (rLenL K) (tCons (tVar 1) tNil)) tNil)) (gName 4) (tSeq (tIfS (tB (tCall q_begins_group [] E0 (tCons (tVar 1) (tCons (tVar 4) tNil)))) (tDrop (tMeth c.st "leave" q_Setting_leave [] E0 (tVar 3) (tCons (tF K (tVar 0) "gap") tNil))) tNext)
    (tFor (iRng1 (tCons (tCB (rLenL K) (tCons (tOp (rIxL K) (tVar 2) (tVar 4)) tNil)) tNil)) (gName 5) (tDrop (tCall q_set_line [] E0 (tCons (tVar 0) (tCons (tVar 1) (tCons (tVar 2) (tCons (tVar 4) (tCons (tVar 5) (tCons (tVar 3) tNil)))))))))))
    (tRet (tF K (tVar 3) "lines"))))
def t_text_end (K : PySem.W.Frag) (c : CA) : TS := (tSeq (tAsg (tC (.int 0)) (gName 1))
    (tSeq (tFor (iEnum K (tCons (tVar 0) tNil)) (gTup K 2 (gCons (gName 2) (gCons (gName 3) gNil))) (tIfS (tTest (tOp rNe (tOp (rIxT K) (tVar 3) (tC (.int 1))) (tC (.int 1)))) (tAsg (tOp aAdd (tVar 2) (tC (.int 1))) (gName 1)) tNext))
    (tRet (tVar 1))))
def t_line_begin (K : PySem.W.Frag) (c : CA) : TS := (tSeq (tFor (iRng2 (tCons (tVar 1) (tCons (tCB (rLenL K) (tCons (tVar 0) tNil)) tNil))) (gName 2) (tIfS (tTest (tOp rNe (tOp (rIxT K) (tOp (rIxL K) (tVar 0) (tVar 2)) (tC (.int 1))) (tC (.int 1)))) (tRet (tVar 2)) tNext))
    (tRet (tCB (rLenL K) (tCons (tVar 0) tNil))))
def t_is_break (K : PySem.W.Frag) (c : CA) : TS := (tSeq (tIfS (tOr (tTest (tOp rEq (tVar 2) (tVar 1))) (tTest (tOp rEq (tOp (rIxT K) (tOp (rIxL K) (tVar 0) (tOp aSub (tVar 2) (tC (.int 1)))) (tC (.int 1))) (tC (.int 2))))) (tRet (tC (.bl true))) tNext)
    (tRet (tAndV (tOp rEq (tOp (rIxT K) (tOp (rIxL K) (tVar 0) (tVar 2)) (tC (.int 1))) (tC (.int 1))) (tOp rNe (tOp (rIxT K) (tOp (rIxL K) (tVar 0) (tOp aSub (tVar 2) (tC (.int 1)))) (tC (.int 1))) (tC (.int 1))))))
def t_best_or (K : PySem.W.Frag) (c : CA) : TS := (tSeq (tIfS (tTest (tOp cIsN (tVar 0) (tC .non))) (tRet (tVar 1)) tNext)
    (tRet (tVar 0)))
def t_line_end (K : PySem.W.Frag) (c : CA) (q_best_or q_is_break : Sp) : TS := (tSeq (tAsg (tC (.int 0)) (gName 4))
    (tSeq (tAsg (tC .non) (gName 5))
    (tSeq (tAsg (tC .non) (gName 6))
    (tSeq (tFor (iRng2 (tCons (tOp aAdd (tVar 2) (tC (.int 1))) (tCons (tOp aAdd (tVar 1) (tC (.int 1))) tNil))) (gName 7) (tSeq (tAsg (tOp aAdd (tVar 4) (tOp (rIxT K) (tOp (rIxL K) (tVar 0) (tOp aSub (tVar 7) (tC (.int 1)))) (tC (.int 0)))) (gName 4))
    (tSeq (tIfS (tTest (tOp cGt (tVar 4) (tVar 3))) (tRet (tCall q_best_or [] E0 (tCons (tVar 6) (tCons (tVar 5) tNil)))) tNext)
    (tSeq (tAsg (tVar 7) (gName 5))
    (tIfS (tB (tCall q_is_break [] E0 (tCons (tVar 0) (tCons (tVar 1) (tCons (tVar 7) tNil))))) (tAsg (tVar 7) (gName 6)) tNext)))))
    (tRet (tCall q_best_or [] E0 (tCons (tVar 6) (tCons (tVar 5) tNil))))))))
def t_text_lines (K : PySem.W.Frag) (c : CA) (q_text_end q_line_begin q_line_end q_room_of : Sp) : TS := (tSeq (tAsg (tLst tNil) (gName 3))
    (tSeq (tAsg (tCall q_text_end [] E0 (tCons (tVar 2) tNil)) (gName 4))
    (tSeq (tAsg (tCall q_line_begin [] E0 (tCons (tVar 2) (tCons (tC (.int 0)) tNil))) (gName 5))
    (tSeq (tWhile (tTest (tOp cLt (tVar 5) (tVar 4))) (tSeq (tAsg (tCall q_line_end [] E0 (tCons (tVar 2) (tCons (tVar 4) (tCons (tVar 5) (tCons (tCall q_room_of [] E0 (tCons (tVar 0) (tCons (tVar 1) (tCons (tOp (rEqD K) (tVar 3) (tLst tNil)) tNil)))) tNil))))) (gName 6))
    (tSeq (tIfS (tTest (tOp cIsN (tVar 6) (tC .non))) (tRet (tC .non)) tNext)
    (tSeq (tDrop (tBM K "list" rAppend (tVar 3) (tCons (tTup (tCons (tVar 5) (tCons (tVar 6) tNil))) tNil)))
    (tAsg (tCall q_line_begin [] E0 (tCons (tVar 2) (tCons (tVar 6) tNil))) (gName 5))))))
    (tRet (tVar 3))))))
def t_Paragraph_init (K : PySem.W.Frag) (c : CA) : TS := (tSeq (sFld K (tVar 0) (tOp (rIxL K) (tVar 1) (tC (.int 0))) "depth")
    (tSeq (sFld K (tVar 0) (tOp (rIxL K) (tVar 1) (tC (.int 1))) "group")
    (tSeq (sFld K (tVar 0) (tOp (rIxL K) (tVar 1) (tC (.int 2))) "lead")
    (sFld K (tVar 0) (tCB (rListOf K) (tCons (tSl (rSlL K) (tVar 1) (tPart (tC (.int 3))) tNoPart) tNil)) "text"))))
def t_is_right (K : PySem.W.Frag) (c : CA) : TS := (tSeq (tIfS (tOr (tTest (tOp cLt (tF K (tVar 0) "depth") (tC (.int 1)))) (tOr (tTest (tOp cGt (tF K (tVar 0) "depth") (tC (.int 3)))) (tTest (tOp cGt (tF K (tVar 0) "depth") (tOp aAdd (tVar 1) (tC (.int 1))))))) (tRet (tC (.bl false))) tNext)
    (tSeq (tIfS (tOr (tTest (tOp cLt (tCB (rLenL K) (tCons (tF K (tVar 0) "text") tNil)) (tC (.int 1)))) (tTest (tOp cGt (tCB (rLenL K) (tCons (tF K (tVar 0) "text") tNil)) (tC (.int 65535))))) (tRet (tC (.bl false))) tNext)
    (tRet (tChain cLe cLe (tC (.int 1)) (tF K (tVar 0) "lead") (tCB (rLenL K) (tCons (tF K (tVar 0) "text") tNil))))))
def t_first_wrong (K : PySem.W.Frag) (c : CA) (q_is_right : Sp) : TS := (tSeq (tAsg (tC (.int 0)) (gName 1))
    (tSeq (tFor (iEnum K (tCons (tVar 0) tNil)) (gTup K 2 (gCons (gName 2) (gCons (gName 3) gNil))) (tSeq (tIfS (tNot (tB (tCall q_is_right [] E0 (tCons (tVar 3) (tCons (tVar 1) tNil))))) (tRet (tVar 2)) tNext)
    (tAsg (tF K (tVar 3) "depth") (gName 1))))
    (tRet (tC .non))))
def t_are_blanks (K : PySem.W.Frag) (c : CA) : TS := (tSeq (tFor (iList K (tVar 0)) (gName 1) (tIfS (tTest (tOp rNe (tOp (rIxT K) (tVar 1) (tC (.int 1))) (tC (.int 1)))) (tRet (tC (.bl false))) tNext))
    (tRet (tC (.bl true))))
def t_first_blank (K : PySem.W.Frag) (c : CA) (q_are_blanks q_signs_of : Sp) : TS := (tSeq (tFor (iEnum K (tCons (tVar 1) tNil)) (gTup K 2 (gCons (gName 2) (gCons (gName 3) gNil))) (tIfS (tB (tCall q_are_blanks [] E0 (tCons (tCall q_signs_of [] E0 (tCons (tVar 0) (tCons (tF K (tVar 3) "text") tNil))) tNil))) (tRet (tVar 2)) tNext))
    (tRet (tC .non)))
def t_all_lines (K : PySem.W.Frag) (c : CA) (q_text_lines q_signs_of : Sp) : TS := (tSeq (tAsg (tLst tNil) (gName 2))
    (tSeq (tFor (iList K (tVar 1)) (gName 3) (tDrop (tBM K "list" rAppend (tVar 2) (tCons (tCall q_text_lines [] E0 (tCons (tVar 0) (tCons (tF K (tVar 3) "depth") (tCons (tCall q_signs_of [] E0 (tCons (tVar 0) (tCons (tF K (tVar 3) "text") tNil))) tNil)))) tNil))))
    (tRet (tVar 2))))
def t_first_none (K : PySem.W.Frag) (c : CA) : TS := (tSeq (tFor (iEnum K (tCons (tVar 0) tNil)) (gTup K 2 (gCons (gName 1) (gCons (gName 2) gNil))) (tIfS (tTest (tOp cIsN (tVar 2) (tC .non))) (tRet (tVar 1)) tNext))
    (tRet (tC .non)))
def t_character_count (K : PySem.W.Frag) (c : CA) : TS := (tRet (tCB (rSum K) (tCons (tLc (iList K (tVar 0)) (gName 1) tYes (tCB (rLenL K) (tCons (tF K (tVar 1) "text") tNil)) [1]) tNil)))
def t_Setter_init (K : PySem.W.Frag) (c : CA) (q_first_sheet : Sp) : TS := (tSeq (sFld K (tVar 0) (tCall q_first_sheet [] E0 tNil) "sheet")
    (tSeq (sFld K (tVar 0) (tLst tNil) "paragraphs")
    (sFld K (tVar 0) (tLst tNil) "lines")))
def t_Setter_take_sheet (K : PySem.W.Frag) (c : CA) (q_Sheet_init q_sheet_refusal : Sp) : TS := (tSeq (tAsg (tMake c.sh q_Sheet_init [] E0 (tCons (tVar 1) (tCons (tOp (rIxL K) (tVar 2) (tC (.int 0))) (tCons (tOp (rIxL K) (tVar 2) (tC (.int 1))) tNil)))) (gName 3))
    (tSeq (tAsg (tCall q_sheet_refusal [] E0 (tCons (tVar 3) tNil)) (gName 4))
    (tSeq (tIfS (tTest (tOp cGt (tVar 4) (tC (.int 0)))) (tRet (tLst (tCons (tUn uNeg (tVar 4)) tNil))) tNext)
    (tSeq (sFld K (tVar 0) (tVar 3) "sheet")
    (tSeq (sFld K (tVar 0) (tLst tNil) "paragraphs")
    (tSeq (sFld K (tVar 0) (tLst tNil) "lines")
    (tRet (tLst (tCons (tC (.int 0)) (tCons (tC (.int 0)) tNil))))))))))
def t_Setter_take_paragraphs (K : PySem.W.Frag) (c : CA) (q_first_wrong q_first_blank q_all_lines q_first_none q_set_all q_Paragraph_init q_character_count : Sp) : TS := (tSeq (tAsg (tLc (iList K (tVar 2)) (gName 7) tYes (tMake c.pa q_Paragraph_init [] E0 (tCons (tVar 7) tNil)) [7]) (gName 3))
    (tSeq (tAsg (tCall q_first_wrong [] E0 (tCons (tVar 3) tNil)) (gName 4))
    (tSeq (tIfS (tTest (tOp cNotN (tVar 4) (tC .non))) (tRet (tLst (tCons (tUn uNeg (tC (.int 1))) (tCons (tVar 4) tNil)))) tNext)
    (tSeq (tIfS (tTest (tOp cGt (tCall q_character_count [] E0 (tCons (tVar 3) tNil)) (tC (.int 262144)))) (tRet (tLst (tCons (tUn uNeg (tC (.int 7))) tNil))) tNext)
    (tSeq (tAsg (tCall q_first_blank [] E0 (tCons (tF K (tVar 0) "sheet") (tCons (tVar 3) tNil))) (gName 4))
    (tSeq (tIfS (tTest (tOp cNotN (tVar 4) (tC .non))) (tRet (tLst (tCons (tUn uNeg (tC (.int 6))) (tCons (tVar 4) tNil)))) tNext)
    (tSeq (tAsg (tCall q_all_lines [] E0 (tCons (tF K (tVar 0) "sheet") (tCons (tVar 3) tNil))) (gName 5))
    (tSeq (tAsg (tCall q_first_none [] E0 (tCons (tVar 5) tNil)) (gName 4))
    (tSeq (tIfS (tTest (tOp cNotN (tVar 4) (tC .non))) (tRet (tLst (tCons (tUn uNeg (tC (.int 5))) (tCons (tVar 4) tNil)))) tNext)
    (tSeq (tAsg (tCall q_set_all [] E0 (tCons (tF K (tVar 0) "sheet") (tCons (tVar 3) (tCons (tVar 5) tNil)))) (gName 6))
    (tSeq (tIfS (tTest (tOp cGt (tCB (rLenL K) (tCons (tVar 6) tNil)) (tC (.int 65536)))) (tRet (tLst (tCons (tUn uNeg (tC (.int 4))) tNil))) tNext)
    (tSeq (sFld K (tVar 0) (tVar 3) "paragraphs")
    (tSeq (sFld K (tVar 0) (tVar 6) "lines")
    (tRet (tLst (tCons (tC (.int 0)) (tCons (tCB (rLenL K) (tCons (tVar 6) tNil)) tNil)))))))))))))))))
def t_Setter_tell_line (K : PySem.W.Frag) (c : CA) : TS := (tSeq (tIfS (tTest (tOp cGe (tOp (rIxL K) (tVar 1) (tC (.int 0))) (tCB (rLenL K) (tCons (tF K (tVar 0) "lines") tNil)))) (tRet (tLst (tCons (tUn uNeg (tC (.int 5))) tNil))) tNext)
    (tSeq (tAsg (tOp (rIxL K) (tF K (tVar 0) "lines") (tOp (rIxL K) (tVar 1) (tC (.int 0)))) (gName 3))
    (tSeq (tAsg (tSl (rSlL K) (tF K (tOp (rIxL K) (tF K (tVar 0) "paragraphs") (tOp (rIxT K) (tVar 3) (tC (.int 2)))) "text") (tPart (tOp (rIxT K) (tVar 3) (tC (.int 3)))) (tPart (tOp (rIxT K) (tVar 3) (tC (.int 4))))) (gName 4))
    (tSeq (tIfS (tTest (tOp rEq (tOp (rIxT K) (tVar 3) (tC (.int 5))) (tC (.int 1)))) (tAsg (tOp rCat (tVar 4) (tF K (tF K (tVar 0) "sheet") "cut")) (gName 4)) tNext)
    (tRet (tOp rCat (tOp rCat (tLst (tCons (tC (.int 0)) tNil)) (tCB (rListOf K) (tCons (tVar 3) tNil))) (tVar 4)))))))
def t_Setter_tell_where (K : PySem.W.Frag) (c : CA) : TS := (tSeq (tAsg (tVar 1) (gUnl K 2 (gCons (gName 3) (gCons (gName 4) gNil))))
    (tSeq (tFor (iEnum K (tCons (tF K (tVar 0) "lines") tNil)) (gTup K 2 (gCons (gName 5) (gCons (gName 6) gNil))) (tIfS (tAnd (tTest (tOp rEq (tOp (rIxT K) (tVar 6) (tC (.int 5))) (tC (.int 0)))) (tAnd (tTest (tOp rEq (tOp (rIxT K) (tVar 6) (tC (.int 2))) (tVar 3))) (tTest (tChain cLe cLt (tOp (rIxT K) (tVar 6) (tC (.int 3))) (tVar 4) (tOp (rIxT K) (tVar 6) (tC (.int 4))))))) (tRet (tLst (tCons (tC (.int 0)) (tCons (tVar 5) tNil)))) tNext))
    (tRet (tLst (tCons (tUn uNeg (tC (.int 5))) tNil)))))
def t_Setter_tell_columns (K : PySem.W.Frag) (c : CA) : TS := (tSeq (tIfS (tTest (tOp rEq (tCB (rLenL K) (tCons (tF K (tVar 0) "lines") tNil)) (tC (.int 0)))) (tRet (tLst (tCons (tC (.int 0)) (tCons (tC (.int 0)) tNil)))) tNext)
    (tRet (tLst (tCons (tC (.int 0)) (tCons (tOp aAdd (tOp (rIxT K) (tOp (rIxL K) (tF K (tVar 0) "lines") (tOp aSub (tCB (rLenL K) (tCons (tF K (tVar 0) "lines") tNil)) (tC (.int 1)))) (tC (.int 0))) (tC (.int 1))) tNil)))))
def t_answer (K : PySem.W.Frag) (c : CA) (q_Setter_tell_columns q_Setter_take_sheet q_Setter_take_paragraphs q_Setter_tell_line q_Setter_tell_where : Sp) : TS := (tSeq (tIfS (tTest (tOp rEq (tVar 1) (tC (.int 1)))) (tRet (tMeth c.se "take_sheet" q_Setter_take_sheet [] E0 (tVar 0) (tCons (tVar 2) (tCons (tVar 3) tNil)))) tNext)
    (tSeq (tIfS (tTest (tOp rEq (tVar 1) (tC (.int 2)))) (tRet (tMeth c.se "take_paragraphs" q_Setter_take_paragraphs [] E0 (tVar 0) (tCons (tVar 2) (tCons (tVar 3) tNil)))) tNext)
    (tSeq (tIfS (tTest (tOp rEq (tVar 1) (tC (.int 3)))) (tRet (tMeth c.se "tell_line" q_Setter_tell_line [] E0 (tVar 0) (tCons (tVar 2) (tCons (tVar 3) tNil)))) tNext)
    (tSeq (tIfS (tTest (tOp rEq (tVar 1) (tC (.int 4)))) (tRet (tMeth c.se "tell_where" q_Setter_tell_where [] E0 (tVar 0) (tCons (tVar 2) (tCons (tVar 3) tNil)))) tNext)
    (tRet (tMeth c.se "tell_columns" q_Setter_tell_columns [] E0 (tVar 0) (tCons (tVar 2) (tCons (tVar 3) tNil))))))))
def t_lists_at (K : PySem.W.Frag) (c : CA) : TS := (tSeq (tAsg (tLst tNil) (gName 2))
    (tSeq (tAsg (tOp aAdd (tVar 1) (tC (.int 1))) (gName 3))
    (tSeq (tFor (iRng1 (tCons (tOp (rIxL K) (tVar 0) (tVar 1)) tNil)) (gName 4) (tSeq (tAsg (tOp aAdd (tOp aAdd (tVar 3) (tC (.int 1))) (tOp (rIxL K) (tVar 0) (tVar 3))) (gName 5))
    (tSeq (tDrop (tBM K "list" rAppend (tVar 2) (tCons (tSl (rSlL K) (tVar 0) (tPart (tOp aAdd (tVar 3) (tC (.int 1)))) (tPart (tVar 5))) tNil)))
    (tAsg (tVar 5) (gName 3)))))
    (tRet (tTup (tCons (tVar 2) (tCons (tVar 3) tNil)))))))
def t_answers (K : PySem.W.Frag) (c : CA) (q_Setter_init q_lists_at q_answer : Sp) : TS := (tSeq (tAsg (tMake c.se q_Setter_init [] E0 tNil) (gName 1))
    (tSeq (tAsg (tLst tNil) (gName 2))
    (tSeq (tAsg (tC (.int 0)) (gName 3))
    (tSeq (tWhile (tTest (tOp cLt (tVar 3) (tCB (rLenL K) (tCons (tVar 0) tNil)))) (tSeq (tAsg (tOp aAdd (tOp aAdd (tVar 3) (tC (.int 2))) (tOp (rIxL K) (tVar 0) (tOp aAdd (tVar 3) (tC (.int 1))))) (gName 4))
    (tSeq (tAsg (tSl (rSlL K) (tVar 0) (tPart (tOp aAdd (tVar 3) (tC (.int 2)))) (tPart (tVar 4))) (gName 5))
    (tSeq (tAsg (tCall q_lists_at [] E0 (tCons (tVar 0) (tCons (tVar 4) tNil))) (gTup K 2 (gCons (gName 6) (gCons (gName 7) gNil))))
    (tSeq (tAsg (tCall q_answer [] E0 (tCons (tVar 1) (tCons (tOp (rIxL K) (tVar 0) (tVar 3)) (tCons (tVar 5) (tCons (tVar 6) tNil))))) (gName 8))
    (tSeq (tAsg (tOp rCat (tOp rCat (tVar 2) (tLst (tCons (tCB (rLenL K) (tCons (tVar 8) tNil)) tNil))) (tVar 8)) (gName 2))
    (tAsg (tVar 7) (gName 3))))))))
    (tRet (tVar 2))))))
end HC

/-! # headcolumns: data in the heap -/
namespace HC
open PySem PySem.Spec PyProof.Rows L2
abbrev She := IhColumn.Setter
abbrev Par := IhColumn.Par
abbrev Ln := IhColumn.Line
abbrev Stt := IhColumns.State

def nv (n : Nat) : V := .int (n : Int)
def nvs (l : List Nat) : List V := l.map nv
def ov : Option Nat → V
  | none => .non
  | some n => nv n
theorem nvs_len {l : List Nat} : (nvs l).length = l.length := List.length_map _
theorem nvs_get {l : List Nat} {i : Nat} {n : Nat} (h : l[i]? = some n) : (nvs l)[i]? = some (nv n) := by
  unfold nvs
  rw [List.getElem?_map, h]
  rfl
theorem nvs_of {l : List Nat} {i : Nat} {v : V} (h : (nvs l)[i]? = some v) : ∃ n, l[i]? = some n ∧ v = nv n := by
  unfold nvs at h
  rw [List.getElem?_map] at h
  cases e : l[i]? with
  | none => rw [e] at h; cases h
  | some n => rw [e] at h; exact ⟨n, rfl, (Option.some.inj h).symm⟩
theorem at_nvs {l : List Nat} {i : Nat} {n : Nat} {z : Int} (e : z = (i : Int)) (h : l[i]? = some n) : atI (nvs l) z = some (nv n) := at_of e (nvs_get h)

/-! ## heaps -/
/-- what is in H' alone -/
def New (H H' : Hp) : Hp := fun b => if (H b).isSome = true then none else H' b
/-- H without a -/
def Hide (H : Hp) (a : Addr) : Hp := fun b => if b = a then none else H b
theorem new_some {H H' : Hp} {b : Addr} {o : HO} : New H H' b = some o ↔ H b = none ∧ H' b = some o := by
  unfold New
  cases h : H b with
  | none => simp
  | some u => simp
theorem hide_some {H : Hp} {a b : Addr} {o : HO} : Hide H a b = some o ↔ b ≠ a ∧ H b = some o := by
  unfold Hide
  by_cases h : b = a
  · simp [h]
  · simp [h]
theorem hide_none {H : Hp} {a b : Addr} (h : H b = none) : Hide H a b = none := by
  unfold Hide
  split
  · rfl
  · exact h
theorem hide_self {H : Hp} {a : Addr} : Hide H a a = none := if_pos rfl
theorem Same.hide {H : Hp} {a : Addr} : Same (Hide H a) H := fun b o h => (hide_some.mp h).2
theorem Same.new {H H' : Hp} : Same (New H H') H' := fun b o h => (new_some.mp h).2
theorem Same.hide2 {H H' : Hp} {a : Addr} (h : Same H H') : Same (Hide H a) (Hide H' a) := fun b o q => hide_some.mpr ⟨(hide_some.mp q).1, h b o (hide_some.mp q).2⟩
theorem Same.toHide {H H' : Hp} {a : Addr} (h : Same H H') (n : H a = none) : Same H (Hide H' a) := fun b o q => hide_some.mpr ⟨ne_of_none q n, h b o q⟩
theorem Same.new2 {H H1 H2 : Hp} (h : Same H1 H2) : Same (New H H1) (New H H2) := fun b o q => new_some.mpr ⟨(new_some.mp q).1, h b o (new_some.mp q).2⟩
theorem Same.new1 {H H1 H2 : Hp} (h : Same H H1) : Same (New H1 H2) (New H H2) := fun b o q => new_some.mpr ⟨h.free (new_some.mp q).1, (new_some.mp q).2⟩
theorem Same.newHide {H H' : Hp} {a : Addr} {o : HO} (h : H a = some o) : Same (New H H') (Hide H' a) := fun b u q => by
  obtain ⟨q1, q2⟩ := new_some.mp q
  refine hide_some.mpr ⟨fun e => ?_, q2⟩
  rw [e, h] at q1
  cases q1
theorem Same.newUpd {H : Hp} {p : Addr} {o : HO} (h : H p = none) : Same H (upd H p o) := fun b u e => by
  rw [upd_ne (ne_of_none e h)]
  exact e
/-- an object that H does not know may change -/
theorem Same.mut {H H' : Hp} {p : Addr} {o : HO} (e : Same H H') (h : H p = none) : Same H (upd H' p o) := fun b u q => by
  rw [upd_ne (ne_of_none q h)]
  exact e b u q
theorem hide_upd {H : Hp} {a : Addr} {o : HO} : Hide (upd H a o) a = Hide H a := by
  funext b
  unfold Hide
  by_cases h : b = a
  · rw [if_pos h, if_pos h]
  · rw [if_neg h, if_neg h, upd_ne h]

/-! ## what a value stands for -/
abbrev Rel (α : Type) := Hp → V → α → Prop
structure Mono {α : Type} (R : Rel α) : Prop where
  up : ∀ {H H' : Hp} {v : V} {x : α}, Same H H' → R H v x → R H' v x
def LsR {α : Type} (R : Rel α) : Rel (List α) := fun H v xs => ∃ (l : Addr) (vs : List V), v = .ref l ∧ H l = some (.lst vs) ∧ vs.length = xs.length ∧ ∀ (i : Nat) (u : V) (x : α), vs[i]? = some u → xs[i]? = some x → R H u x
def OptR {α : Type} (R : Rel α) : Rel (Option α) := fun H v o => match o with
  | none => v = .non
  | some x => R H v x
def PrR : Rel (Nat × Nat) := fun H v p => ∃ t : Addr, v = .ref t ∧ H t = some (.tup [nv p.1, nv p.2])
def lnV (x : Ln) : List V := [nv x.column, nv x.row, nv x.par, nv x.from_, nv x.to_, nv x.kind]
def LnR : Rel Ln := fun H v x => ∃ t : Addr, v = .ref t ∧ H t = some (.tup (lnV x))
def NsR : Rel (List Nat) := fun H v ns => ∃ l : Addr, v = .ref l ∧ H l = some (.lst (nvs ns))
def parF (p : Par) (x : Addr) : List (Str × V) := [("depth", nv p.depth), ("group", nv p.group), ("lead", nv p.lead), ("text", .ref x)]
def ParR (C : Addr) : Rel Par := fun H v p => ∃ a dx x : Addr, v = .ref a ∧ H a = some (.ins C dx (parF p x)) ∧ H x = some (.lst (nvs p.text))
/-- widths, four numbers each -/
def wN (l : List IhColumn.Width) : List Nat := l.flatMap fun w => [w.from_, w.to_, w.width, w.kind]
def sheF (s : She) (i w t : Addr) : List (Str × V) := [("width", nv s.house.width), ("height", nv s.house.height), ("indents", .ref i), ("turn", nv s.house.turn), ("gap", nv s.house.gap), ("widths", .ref w), ("cut", .ref t)]
def SheR (C : Addr) : Rel She := fun H v s => ∃ a dx i w t : Addr, v = .ref a ∧ H a = some (.ins C dx (sheF s i w t)) ∧ H i = some (.lst (nvs s.house.indent)) ∧ H w = some (.lst (nvs (wN s.widths))) ∧ H t = some (.lst (nvs s.cut)) ∧ s.house.indent.length = 3

theorem PrR.mono : Mono PrR := ⟨fun h ⟨t, e, q⟩ => ⟨t, e, h _ _ q⟩⟩
theorem LnR.mono : Mono LnR := ⟨fun h ⟨t, e, q⟩ => ⟨t, e, h _ _ q⟩⟩
theorem NsR.mono : Mono NsR := ⟨fun h ⟨t, e, q⟩ => ⟨t, e, h _ _ q⟩⟩
theorem ParR.mono {C : Addr} : Mono (ParR C) := ⟨fun h ⟨a, dx, x, e, q, r⟩ => ⟨a, dx, x, e, h _ _ q, h _ _ r⟩⟩
theorem SheR.mono {C : Addr} : Mono (SheR C) := ⟨fun h ⟨a, dx, i, w, t, e, q, q1, q2, q3, q4⟩ => ⟨a, dx, i, w, t, e, h _ _ q, h _ _ q1, h _ _ q2, h _ _ q3, q4⟩⟩
theorem LsR.mono {α : Type} {R : Rel α} (m : Mono R) : Mono (LsR R) := ⟨fun h ⟨l, vs, e, q, n, k⟩ => ⟨l, vs, e, h _ _ q, n, fun i u x a b => m.up h (k i u x a b)⟩⟩
theorem OptR.mono {α : Type} {R : Rel α} (m : Mono R) : Mono (OptR R) := ⟨fun {H H' v o} h r => by
  cases o with
  | none => exact r
  | some x => exact m.up h r⟩

/-- the result is new, all else stands -/
def Gives {α : Type} (R : Rel α) (x : α) (H : Hp) (Q : VK) : Prop := ∀ (v : V) (H' : Hp), Same H H' → R (New H H') v x → Q v H'

theorem get_len {α β : Type} {vs : List α} {xs : List β} (n : vs.length = xs.length) {i : Nat} {x : β} (h : xs[i]? = some x) : ∃ v, vs[i]? = some v := by
  have h1 := (List.getElem?_eq_some_iff.mp h).1
  exact ⟨vs[i]'(by omega), List.getElem?_eq_getElem _⟩
theorem LsR.at {α : Type} {R : Rel α} {H : Hp} {v : V} {xs : List α} (r : LsR R H v xs) {i : Nat} {x : α} (h : xs[i]? = some x) : ∃ (l : Addr) (vs : List V) (u : V), v = .ref l ∧ H l = some (.lst vs) ∧ vs.length = xs.length ∧ vs[i]? = some u ∧ R H u x := by
  obtain ⟨l, vs, e, q, n, k⟩ := r
  obtain ⟨u, hu⟩ := get_len n h
  exact ⟨l, vs, u, e, q, n, hu, k i u x hu h⟩

/-! ## a list that grows: l is new since H0, its items are new, and none of them is l -/
def Grow {α : Type} (R : Rel α) (H0 H : Hp) (l : Addr) (xs : List α) : Prop := H0 l = none ∧ ∃ vs : List V, H l = some (.lst vs) ∧ vs.length = xs.length ∧ ∀ (i : Nat) (u : V) (x : α), vs[i]? = some u → xs[i]? = some x → R (Hide (New H0 H) l) u x
theorem Grow.nil {α : Type} {R : Rel α} {H0 H : Hp} {l : Addr} (n : H0 l = none) (h : H l = some (.lst [])) : Grow R H0 H l [] := ⟨n, [], h, rfl, fun i u x a _ => by simp at a⟩
theorem Grow.same {α : Type} {R : Rel α} (m : Mono R) {H0 H H' : Hp} {l : Addr} {xs : List α} (s : Same H H') (g : Grow R H0 H l xs) : Grow R H0 H' l xs := by
  obtain ⟨n, vs, h, e, k⟩ := g
  exact ⟨n, vs, s _ _ h, e, fun i u x a b => m.up (Same.hide2 (Same.new2 s)) (k i u x a b)⟩
theorem Grow.push {α : Type} {R : Rel α} (m : Mono R) {H0 H : Hp} {l : Addr} {xs : List α} {vs : List V} {v : V} {x : α} (g : Grow R H0 H l xs) (h : H l = some (.lst vs)) (r : R (Hide (New H0 H) l) v x) : Grow R H0 (upd H l (.lst (vs ++ [v]))) l (xs ++ [x]) := by
  obtain ⟨n, vs', h', e, k⟩ := g
  rw [h] at h'
  cases h'
  have hs : Same (Hide (New H0 H) l) (Hide (New H0 (upd H l (.lst (vs ++ [v])))) l) := fun b o q => by
    obtain ⟨q1, q2⟩ := hide_some.mp q
    obtain ⟨q3, q4⟩ := new_some.mp q2
    exact hide_some.mpr ⟨q1, new_some.mpr ⟨q3, by rw [upd_ne q1]; exact q4⟩⟩
  refine ⟨n, vs ++ [v], upd_same, by simp [e], fun i u y a b => ?_⟩
  by_cases hi : i < vs.length
  · rw [List.getElem?_append_left hi] at a
    rw [List.getElem?_append_left (by omega)] at b
    exact m.up hs (k i u y a b)
  · have hi2 : i = vs.length := by
      have := (List.getElem?_eq_some_iff.mp a).1
      simp at this
      omega
    subst hi2
    rw [List.getElem?_append_right (Nat.le_refl _)] at a
    rw [e, List.getElem?_append_right (Nat.le_refl _)] at b
    simp at a b
    subst a b
    exact m.up hs r
theorem Grow.done {α : Type} {R : Rel α} (m : Mono R) {H0 H : Hp} {l : Addr} {xs : List α} (g : Grow R H0 H l xs) : LsR R (New H0 H) (.ref l) xs := by
  obtain ⟨n, vs, h, e, k⟩ := g
  exact ⟨l, vs, rfl, new_some.mpr ⟨n, h⟩, e, fun i u x a b => m.up Same.hide (k i u x a b)⟩
theorem Grow.len {α : Type} {R : Rel α} {H0 H : Hp} {l : Addr} {xs : List α} {vs : List V} (g : Grow R H0 H l xs) (h : H l = some (.lst vs)) : vs.length = xs.length := by
  obtain ⟨_, vs', h', e, _⟩ := g
  rw [h] at h'
  cases h'
  exact e
/-- the item comes from a call: new since H, where l stood -/
theorem new_item {α : Type} {R : Rel α} (m : Mono R) {H0 H H' : Hp} {l : Addr} {o : HO} {v : V} {x : α} (s0 : Same H0 H) (h : H l = some o) (r : R (New H H') v x) : R (Hide (New H0 H') l) v x := by
  refine m.up (fun b u q => ?_) r
  obtain ⟨q1, q2⟩ := new_some.mp q
  refine hide_some.mpr ⟨fun e => ?_, new_some.mpr ⟨s0.free q1, q2⟩⟩
  rw [e, h] at q1
  cases q1

/-! ## attributes -/
theorem lk_here {k : Str} {v : V} {r : List (Str × V)} : List.lookup k ((k, v) :: r) = some v := by
  have e : (k == k) = true := beq_self_eq_true k
  simp only [List.lookup, e]
theorem lk_past {k g : Str} {v : V} {r : List (Str × V)} (h : (k == g) = false) : List.lookup k ((g, v) :: r) = List.lookup k r := by
  simp only [List.lookup, h]
theorem put_here {f : Str} {v x : V} {r : List (Str × V)} : putF f v ((f, x) :: r) = (f, v) :: r := if_pos rfl
theorem put_past {f g : Str} {v x : V} {r : List (Str × V)} (h : ¬ g = f) : putF f v ((g, x) :: r) = (g, x) :: putF f v r := if_neg h
theorem put_nil {f : Str} {v : V} : putF f v [] = [(f, v)] := rfl
section
variable {K : PySem.W.Frag} {c : CA} {H : Hp} {a dx i w t : Addr} {s : She} {p : Par} {x : Addr}
theorem fd_width (T : Kf K c) (h : H a = some (.ins c.sh dx (sheF s i w t))) : Fd K H a "width" (nv s.house.width) := ⟨_, _, _, h, T.clsh, T.nwidth, lk_here⟩
theorem fd_height (T : Kf K c) (h : H a = some (.ins c.sh dx (sheF s i w t))) : Fd K H a "height" (nv s.house.height) := ⟨_, _, _, h, T.clsh, T.nheight, (lk_past (by decide +kernel)).trans lk_here⟩
theorem fd_indents (T : Kf K c) (h : H a = some (.ins c.sh dx (sheF s i w t))) : Fd K H a "indents" (.ref i) := ⟨_, _, _, h, T.clsh, T.nindents, (lk_past (by decide +kernel)).trans ((lk_past (by decide +kernel)).trans lk_here)⟩
theorem fd_turn (T : Kf K c) (h : H a = some (.ins c.sh dx (sheF s i w t))) : Fd K H a "turn" (nv s.house.turn) := ⟨_, _, _, h, T.clsh, T.nturn, (lk_past (by decide +kernel)).trans ((lk_past (by decide +kernel)).trans ((lk_past (by decide +kernel)).trans lk_here))⟩
theorem fd_gap (T : Kf K c) (h : H a = some (.ins c.sh dx (sheF s i w t))) : Fd K H a "gap" (nv s.house.gap) := ⟨_, _, _, h, T.clsh, T.ngap, (lk_past (by decide +kernel)).trans ((lk_past (by decide +kernel)).trans ((lk_past (by decide +kernel)).trans ((lk_past (by decide +kernel)).trans lk_here)))⟩
theorem fd_widths (T : Kf K c) (h : H a = some (.ins c.sh dx (sheF s i w t))) : Fd K H a "widths" (.ref w) := ⟨_, _, _, h, T.clsh, T.nwidths, (lk_past (by decide +kernel)).trans ((lk_past (by decide +kernel)).trans ((lk_past (by decide +kernel)).trans ((lk_past (by decide +kernel)).trans ((lk_past (by decide +kernel)).trans lk_here))))⟩
theorem fd_cut (T : Kf K c) (h : H a = some (.ins c.sh dx (sheF s i w t))) : Fd K H a "cut" (.ref t) := ⟨_, _, _, h, T.clsh, T.ncut, (lk_past (by decide +kernel)).trans ((lk_past (by decide +kernel)).trans ((lk_past (by decide +kernel)).trans ((lk_past (by decide +kernel)).trans ((lk_past (by decide +kernel)).trans ((lk_past (by decide +kernel)).trans lk_here)))))⟩
theorem fd_depth (T : Kf K c) (h : H a = some (.ins c.pa dx (parF p x))) : Fd K H a "depth" (nv p.depth) := ⟨_, _, _, h, T.clpa, T.ndepth, lk_here⟩
theorem fd_group (T : Kf K c) (h : H a = some (.ins c.pa dx (parF p x))) : Fd K H a "group" (nv p.group) := ⟨_, _, _, h, T.clpa, T.ngroup, (lk_past (by decide +kernel)).trans lk_here⟩
theorem fd_lead (T : Kf K c) (h : H a = some (.ins c.pa dx (parF p x))) : Fd K H a "lead" (nv p.lead) := ⟨_, _, _, h, T.clpa, T.nlead, (lk_past (by decide +kernel)).trans ((lk_past (by decide +kernel)).trans lk_here)⟩
theorem fd_text (T : Kf K c) (h : H a = some (.ins c.pa dx (parF p x))) : Fd K H a "text" (.ref x) := ⟨_, _, _, h, T.clpa, T.ntext, (lk_past (by decide +kernel)).trans ((lk_past (by decide +kernel)).trans ((lk_past (by decide +kernel)).trans lk_here))⟩
end

/-! ## enumerate -/
theorem for_enum {K : PySem.W.Frag} {a : Addr} {xs : List V} {g : TG} {tb : TS} {D : Ends} {σ : L2.St} {H : Hp} (Pv : Nat → L2.St → Hp → Prop) (h0 : Pv 0 σ H) (hl : ∀ i σ H, i ≤ xs.length → Pv i σ H → SqL K H a xs)
    (hs : ∀ i x σ H (t : Addr), xs[i]? = some x → Pv i σ H → H t = none → g (.ref t) σ (upd H t (.tup [.int (i : Nat), x])) fun σ2 H2 => tb { D with nx := Pv (i + 1), ct := Pv (i + 1), bk := D.nx } σ2 H2) (hd : ∀ σ H, Pv xs.length σ H → D.nx σ H) :
    ∃ W : Nat → Nat → L2.St → Hp → Prop, (∃ m, W 0 m σ H) ∧ ∀ i m σ H, W i m σ H →
      ((Ite K a).stop i H ∧ D.nx σ H) ∨ ((Ite K a).go i H ∧ ∃ N : L2.St → Hp → Prop, (∀ σ' H', N σ' H' → ∃ m', m' < m ∧ W (i + 1) m' σ' H') ∧ ∀ x H', (Ite K a).yld i H x H' → g x σ H' fun σ2 H2 => tb { D with nx := N, ct := N, bk := D.nx } σ2 H2) := by
  refine ⟨fun i m σ H => m = xs.length - i ∧ i ≤ xs.length ∧ Pv i σ H, ⟨xs.length, by simp, Nat.zero_le _, h0⟩, ?_⟩
  rintro i m σ H ⟨rfl, hi, p⟩
  have q := hl i σ H hi p
  by_cases hlt : i < xs.length
  · refine .inr ⟨⟨xs, xs[i], q, by simp [hlt]⟩, Pv (i + 1), fun σ' H' p' => ⟨xs.length - (i + 1), by omega, rfl, hlt, p'⟩, fun x H' y => ?_⟩
    obtain ⟨t, u, e1, n, e2, y⟩ := y
    subst e1 e2
    exact hs i u σ _ t (y xs q) p n
  · have e : i = xs.length := by omega
    subst e
    exact .inl ⟨⟨xs, q, Nat.le_refl _⟩, hd σ H p⟩
end HC

/-! # headcolumns: the promise of each def -/
namespace HC
open PySem PySem.Spec PyProof.Rows L2
/-- why a sheet is refused, or 0 -/
def badW (x : IhColumn.Width) : Bool := decide (x.to_ < x.from_) || decide (2 < x.kind)
def refusal (s : She) : Nat := if s.house.height < 3 ∨ 1000 < s.house.height ∨ 100 < s.house.gap ∨ 1000000 < s.house.width ∨ 256 < s.widths.length ∨ 64 < s.cut.length then 1
  else if s.widths.any badW = true then 2 else if s.house.width < s.wide s.cut then 3 else 0
def sp_Sheet_init (K : PySem.W.Frag) (c : CA) : Sp := fun vs H Q _ => ∃ (p dx an aw ac : Addr) (w h i1 i2 i3 t g : Nat) (ws : List IhColumn.Width) (cut : List Nat),
  vs = [.ref p, .ref an, .ref aw, .ref ac] ∧ H p = some (.ins c.sh dx []) ∧ SqL K H an (nvs [w, h, i1, i2, i3, t, g]) ∧ SqL K H aw (nvs (wN ws)) ∧ SqL K H ac (nvs cut) ∧
  ∀ H' : Hp, Same (Hide H p) H' → SheR c.sh (New (Hide H p) H') (.ref p) ⟨⟨w, h, [i1, i2, i3], t, g⟩, ws, cut⟩ → Q .non H'
def newSheet : She := ⟨⟨0, 3, [0, 0, 0], 0, 0⟩, [], []⟩
def sp_first_sheet (K : PySem.W.Frag) (c : CA) : Sp := fun vs H Q _ => vs = [] ∧ Gives (SheR c.sh) newSheet H Q
def sp_sign_of (K : PySem.W.Frag) (c : CA) : Sp := fun vs H Q _ => ∃ (v : V) (s : She) (n : Nat), vs = [v, nv n] ∧ SheR c.sh H v s ∧ s.widths.length ≤ 1000000 ∧ Gives PrR (s.of_ n) H Q
def sp_signs_of (K : PySem.W.Frag) (c : CA) : Sp := fun vs H Q _ => ∃ (v : V) (x : Addr) (s : She) (t : List Nat), vs = [v, .ref x] ∧ SheR c.sh H v s ∧ SqL K H x (nvs t) ∧ s.widths.length ≤ 1000000 ∧ t.length ≤ 1000000 ∧ Gives (LsR PrR) (t.map s.of_) H Q
def sp_width_of (K : PySem.W.Frag) (c : CA) : Sp := fun vs H Q _ => ∃ (v : V) (ss : List (Nat × Nat)), vs = [v] ∧ LsR PrR H v ss ∧ ss.length ≤ 1000000 ∧ ∀ H' : Hp, Same H H' → Q (nv (ss.map (fun p : Nat × Nat => p.1)).sum) H'
def sp_room_of (K : PySem.W.Frag) (c : CA) : Sp := fun vs H Q _ => ∃ (v : V) (s : She) (d : Nat) (b : Bool), vs = [v, nv d, .bl b] ∧ SheR c.sh H v s ∧ 1 ≤ d ∧ d ≤ 3 ∧ Q (nv (s.room d b)) H
def sp_are_right_widths (K : PySem.W.Frag) (c : CA) : Sp := fun vs H Q _ => ∃ (a : Addr) (ws : List IhColumn.Width), vs = [.ref a] ∧ SqL K H a (nvs (wN ws)) ∧ ws.length ≤ 1000000 ∧ Q (.bl (!ws.any badW)) H
def sp_sheet_refusal (K : PySem.W.Frag) (c : CA) : Sp := fun vs H Q _ => ∃ (v : V) (s : She), vs = [v] ∧ SheR c.sh H v s ∧ s.widths.length ≤ 1000000 ∧ s.cut.length ≤ 1000000 ∧ ∀ H' : Hp, Same H H' → Q (nv (refusal s)) H'

/-! ## columns -/
/-- a setting: what is set so far; it and its list are new since H0 -/
def SetAt (C : Addr) (H0 H : Hp) (a : Addr) (x : IhColumn.At) : Prop := ∃ (dx l : Addr) (vs : List V), H a = some (.ins C dx [("lines", .ref l), ("column", nv x.column), ("row", nv x.row)]) ∧ H l = some (.lst vs) ∧ H0 a = none ∧ H0 l = none ∧ Same H0 H ∧
  vs.length = x.done.length ∧ ∀ (i : Nat) (u : V) (y : Ln), vs[i]? = some u → x.done.reverse[i]? = some y → LnR (New H0 H) u y
def sp_Setting_init (K : PySem.W.Frag) (c : CA) : Sp := fun vs H Q _ => ∃ (p dx : Addr) (H0 : Hp), vs = [.ref p] ∧ H p = some (.ins c.st dx []) ∧ H0 p = none ∧ Same H0 H ∧ ∀ H' : Hp, SetAt c.st H0 H' p ⟨0, 0, []⟩ → Q .non H'
def sp_Setting_put (K : PySem.W.Frag) (c : CA) : Sp := fun vs H Q _ => ∃ (a : Addr) (H0 : Hp) (x : IhColumn.At) (par b e k : Nat), vs = [.ref a, nv par, nv b, nv e, nv k] ∧ SetAt c.st H0 H a x ∧ x.done.length < 16000000 ∧
  ∀ H' : Hp, SetAt c.st H0 H' a ⟨x.column, x.row + 1, ⟨x.column, x.row, par, b, e, k⟩ :: x.done⟩ → Q .non H'
def sp_Setting_leave (K : PySem.W.Frag) (c : CA) : Sp := fun vs H Q _ => ∃ (a : Addr) (H0 : Hp) (x : IhColumn.At) (g : Nat), vs = [.ref a, nv g] ∧ SetAt c.st H0 H a x ∧
  ∀ H' : Hp, SetAt c.st H0 H' a (if x.row ≠ 0 then { x with row := x.row + g } else x) → Q .non H'
def sp_Setting_turn_column (K : PySem.W.Frag) (c : CA) : Sp := fun vs H Q _ => ∃ (a : Addr) (H0 : Hp) (x : IhColumn.At), vs = [.ref a] ∧ SetAt c.st H0 H a x ∧
  ∀ H' : Hp, SetAt c.st H0 H' a ⟨x.column + 1, 0, x.done⟩ → Q .non H'
def mainIx (ps : List Par) (i : Nat) : Nat := (IhColumn.mainsFrom 0 0 ps).getD i 0
def sp_main_of (K : PySem.W.Frag) (c : CA) : Sp := fun vs H Q _ => ∃ (v : V) (ps : List Par) (i : Nat), vs = [v, nv i] ∧ LsR (ParR c.pa) H v ps ∧ i < ps.length ∧ (∀ p, ps[0]? = some p → p.depth = 1) ∧ Q (nv (mainIx ps i)) H
def sp_lead_kept (K : PySem.W.Frag) (c : CA) : Sp := fun vs H Q _ => ∃ (v vp : V) (s : She) (p : Par), vs = [v, vp] ∧ SheR c.sh H v s ∧ ParR c.pa H vp p ∧ s.widths.length ≤ 1000000 ∧ s.cut.length ≤ 1000000 ∧ p.lead ≤ p.text.length ∧ p.text.length ≤ 1000000 ∧
  ∀ H' : Hp, Same H H' → Q (nv (s.told p)) H'
def sp_rows_alone (K : PySem.W.Frag) (c : CA) : Sp := fun vs H Q _ => ∃ (l : Addr) (ys : List V), vs = [.ref l] ∧ SqL K H l ys ∧ Q (nv (if 1 < ys.length then 2 else 1)) H
/-- how many rows the at-th line of the i-th paragraph needs -/
def needs0 (ps : List Par) (lss : List (List (Nat × Nat))) (i : Nat) (p : Par) (ls : List (Nat × Nat)) : Nat := if 1 < ls.length then 2 else if p.depth = 1 then (match ps[i + 1]? with
  | some q => if q.depth = 1 then 1 else if 1 < (lss.getD (i + 1) []).length then 3 else 2
  | none => 1) else 1
def sp_rows_needed (K : PySem.W.Frag) (c : CA) : Sp := fun vs H Q _ => ∃ (vp vl : V) (ps : List Par) (lss : List (List (Nat × Nat))) (i j : Nat) (p : Par) (ls : List (Nat × Nat)), vs = [vp, vl, nv i, nv j] ∧ LsR (ParR c.pa) H vp ps ∧ LsR (LsR PrR) H vl lss ∧
  lss.length = ps.length ∧ ps[i]? = some p ∧ lss[i]? = some ls ∧ Q (nv (if j = 0 then needs0 ps lss i p ls else 1)) H
def other (ps : List Par) (i : Nat) (p : Par) : Bool := match i with
  | 0 => false
  | j + 1 => p.depth == 1 && ((ps[j]?).map fun (q : Par) => q.group) != some p.group
def sp_begins_group (K : PySem.W.Frag) (c : CA) : Sp := fun vs H Q _ => ∃ (vp : V) (ps : List Par) (i : Nat) (p : Par), vs = [vp, nv i] ∧ LsR (ParR c.pa) H vp ps ∧ ps[i]? = some p ∧ Q (.bl (other ps i p)) H
/-- what is handed to set_line and set_all -/
structure Job (s : She) (ps : List Par) (lss : List (List (Nat × Nat))) : Prop where
  w : s.widths.length ≤ 1000000
  ct : s.cut.length ≤ 1000000
  len : lss.length = ps.length
  one : ∀ p, ps[0]? = some p → p.depth = 1
  lead : ∀ p ∈ ps, p.lead ≤ p.text.length ∧ p.text.length ≤ 1000000
def sp_set_line (K : PySem.W.Frag) (c : CA) : Sp := fun vs H Q _ => ∃ (v vp vl : V) (a : Addr) (H0 : Hp) (s : She) (ps : List Par) (lss : List (List (Nat × Nat))) (i j : Nat) (p : Par) (ls : List (Nat × Nat)) (l : Nat × Nat) (x : IhColumn.At),
  vs = [v, vp, vl, nv i, nv j, .ref a] ∧ SheR c.sh H0 v s ∧ LsR (ParR c.pa) H0 vp ps ∧ LsR (LsR PrR) H0 vl lss ∧ Job s ps lss ∧ ps[i]? = some p ∧ lss[i]? = some ls ∧ ls[j]? = some l ∧ SetAt c.st H0 H a x ∧ x.done.length < 15000000 ∧
  ∀ H' : Hp, SetAt c.st H0 H' a (s.put x i (mainIx ps i) (((ps[mainIx ps i]?).map s.told).getD 0) (p.depth == 1 && j == 0) (if j = 0 then needs0 ps lss i p ls else 1) l) → Q .non H'
/-- a paragraph set -/
def setPar (s : She) (ps : List Par) (lss : List (List (Nat × Nat))) (x : IhColumn.At) (i : Nat) (p : Par) (ls : List (Nat × Nat)) : IhColumn.At :=
  (ls.zipIdx.foldl (fun (x : IhColumn.At) (l : (Nat × Nat) × Nat) => s.put x i (mainIx ps i) (((ps[mainIx ps i]?).map s.told).getD 0) (p.depth == 1 && l.2 == 0) (if l.2 = 0 then needs0 ps lss i p ls else 1) l.1)
    (if other ps i p = true then (if x.row ≠ 0 then { x with row := x.row + s.house.gap } else x) else x))
def setAll (s : She) (ps : List Par) (lss : List (List (Nat × Nat))) : IhColumn.At := ps.zipIdx.foldl (fun (x : IhColumn.At) (p : Par × Nat) => setPar s ps lss x p.2 p.1 (lss.getD p.2 [])) ⟨0, 0, []⟩
def sp_set_all (K : PySem.W.Frag) (c : CA) : Sp := fun vs H Q _ => ∃ (v vp vl : V) (s : She) (ps : List Par) (lss : List (List (Nat × Nat))), vs = [v, vp, vl] ∧ SheR c.sh H v s ∧ LsR (ParR c.pa) H vp ps ∧ LsR (LsR PrR) H vl lss ∧ Job s ps lss ∧
  (lss.map List.length).sum ≤ 1000000 ∧ ps.length ≤ 1000000 ∧ Gives (LsR LnR) (setAll s ps lss).done.reverse H Q

/-! ## breaking -/
def sp_text_end (K : PySem.W.Frag) (c : CA) : Sp := fun vs H Q _ => ∃ (v : V) (s : She) (t : List Nat), vs = [v] ∧ LsR PrR H v (t.map s.of_) ∧ ∀ H' : Hp, Same H H' → Q (nv (s.halt_ t)) H'
def sp_line_begin (K : PySem.W.Frag) (c : CA) : Sp := fun vs H Q _ => ∃ (v : V) (s : She) (t : List Nat) (i : Nat), vs = [v, nv i] ∧ LsR PrR H v (t.map s.of_) ∧ t.length ≤ 1000000 ∧ i ≤ t.length ∧ Q (nv (i + ((t.drop i).takeWhile s.blank).length)) H
def brk (s : She) (t : List Nat) (e p : Nat) : Bool := p == e || (match t.drop (p - 1) with
  | x :: y :: _ => (s.blank y && !s.blank x) || (s.of_ x).2 == 2
  | _ => false)
def sp_is_break (K : PySem.W.Frag) (c : CA) : Sp := fun vs H Q _ => ∃ (v : V) (s : She) (t : List Nat) (e p : Nat), vs = [v, nv e, nv p] ∧ LsR PrR H v (t.map s.of_) ∧ 1 ≤ p ∧ p ≤ e ∧ e ≤ t.length ∧ Q (.bl (brk s t e p)) H
def best (b l : Option Nat) : Option Nat := if b.isSome = true then b else l
def sp_best_or (K : PySem.W.Frag) (c : CA) : Sp := fun vs H Q _ => ∃ (b l : Option Nat), vs = [ov b, ov l] ∧ Q (ov (best b l)) H
def sp_line_end (K : PySem.W.Frag) (c : CA) : Sp := fun vs H Q _ => ∃ (v : V) (s : She) (t : List Nat) (e b r : Nat), vs = [v, nv e, nv b, nv r] ∧ LsR PrR H v (t.map s.of_) ∧ t.length ≤ 1000000 ∧ b ≤ e ∧ e ≤ t.length ∧
  Q (ov (s.endsOn e r (t.drop b) b 0 none none)) H
def sp_text_lines (K : PySem.W.Frag) (c : CA) : Sp := fun vs H Q _ => ∃ (v vg : V) (s : She) (d : Nat) (t : List Nat), vs = [v, nv d, vg] ∧ SheR c.sh H v s ∧ 1 ≤ d ∧ d ≤ 3 ∧ LsR PrR H vg (t.map s.of_) ∧ t.length ≤ 1000000 ∧
  Gives (OptR (LsR PrR)) (s.linesFrom d (s.halt_ t) (t.length + 1) t 0 true) H Q

/-! ## paragraphs -/
def sp_Paragraph_init (K : PySem.W.Frag) (c : CA) : Sp := fun vs H Q _ => ∃ (p dx an : Addr) (d g l : Nat) (t : List Nat), vs = [.ref p, .ref an] ∧ H p = some (.ins c.pa dx []) ∧ SqL K H an (nvs (d :: g :: l :: t)) ∧
  ∀ H' : Hp, Same (Hide H p) H' → ParR c.pa (New (Hide H p) H') (.ref p) ⟨d, g, l, t⟩ → Q .non H'
def wrongP (d : Nat) (p : Par) : Prop := p.depth = 0 ∨ 3 < p.depth ∨ d + 1 < p.depth ∨ p.text = [] ∨ IhColumns.PARTEXT < p.text.length ∨ p.lead = 0 ∨ p.text.length < p.lead
instance (d : Nat) (p : Par) : Decidable (wrongP d p) := by unfold wrongP; infer_instance
def sp_is_right (K : PySem.W.Frag) (c : CA) : Sp := fun vs H Q _ => ∃ (v : V) (p : Par) (b : Nat), vs = [v, nv b] ∧ ParR c.pa H v p ∧ Q (.bl (!decide (wrongP b p))) H
def sp_first_wrong (K : PySem.W.Frag) (c : CA) : Sp := fun vs H Q _ => ∃ (v : V) (ps : List Par), vs = [v] ∧ LsR (ParR c.pa) H v ps ∧ ∀ H' : Hp, Same H H' → Q (ov (IhColumns.wrong 0 0 ps)) H'
def sp_are_blanks (K : PySem.W.Frag) (c : CA) : Sp := fun vs H Q _ => ∃ (v : V) (s : She) (t : List Nat), vs = [v] ∧ LsR PrR H v (t.map s.of_) ∧ Q (.bl (t.all s.blank)) H
def sp_first_blank (K : PySem.W.Frag) (c : CA) : Sp := fun vs H Q _ => ∃ (v vp : V) (s : She) (ps : List Par), vs = [v, vp] ∧ SheR c.sh H v s ∧ LsR (ParR c.pa) H vp ps ∧ s.widths.length ≤ 1000000 ∧ (∀ p ∈ ps, p.text.length ≤ 1000000) ∧
  ∀ H' : Hp, Same H H' → Q (ov (ps.findIdx? fun (p : Par) => p.text.all s.blank)) H'
def sp_all_lines (K : PySem.W.Frag) (c : CA) : Sp := fun vs H Q _ => ∃ (v vp : V) (s : She) (ps : List Par), vs = [v, vp] ∧ SheR c.sh H v s ∧ LsR (ParR c.pa) H vp ps ∧ s.widths.length ≤ 1000000 ∧ ps.length ≤ 1000000 ∧ (∀ p ∈ ps, p.text.length ≤ 1000000 ∧ 1 ≤ p.depth ∧ p.depth ≤ 3) ∧
  Gives (LsR (OptR (LsR PrR))) (ps.map s.lines) H Q
def sp_first_none (K : PySem.W.Frag) (c : CA) : Sp := fun vs H Q _ => ∃ (v : V) (os : List (Option (List (Nat × Nat)))), vs = [v] ∧ LsR (OptR (LsR PrR)) H v os ∧ ∀ H' : Hp, Same H H' → Q (ov (os.findIdx? fun o => o.isNone)) H'
def sp_character_count (K : PySem.W.Frag) (c : CA) : Sp := fun vs H Q _ => ∃ (v : V) (ps : List Par), vs = [v] ∧ LsR (ParR c.pa) H v ps ∧ ps.length ≤ 1000000 ∧ ∀ H' : Hp, Same H H' → Q (nv (ps.map fun (p : Par) => p.text.length).sum) H'

/-! ## the setter -/
def SttAt (c : CA) (H : Hp) (x : Addr) (d : Stt) : Prop := ∃ (dx : Addr) (va vb vc : V), H x = some (.ins c.se dx [("sheet", va), ("paragraphs", vb), ("lines", vc)]) ∧ SheR c.sh (Hide H x) va d.sheet ∧ LsR (ParR c.pa) (Hide H x) vb d.pars ∧ LsR LnR (Hide H x) vc d.lines
/-- what holds of every state -/
structure Good (d : Stt) : Prop where
  cut : d.sheet.cut.length ≤ 64
  wid : d.sheet.widths.length ≤ 256
  lns : d.lines.length ≤ 65536
  par : ∀ l ∈ d.lines, l.par < d.pars.length ∧ (l.kind = 1 → l.from_ = 0)
  txt : ∀ p ∈ d.pars, p.text.length ≤ 65535
  col : ∀ l, d.lines[d.lines.length - 1]? = some l → (d.lines.map fun (y : Ln) => y.column + 1).foldl max 0 = l.column + 1
def AnsR (H : Hp) (v : V) (zs : List Int) : Prop := ∃ l : Addr, v = .ref l ∧ H l = some (.lst (zs.map V.int))
/-- a call on the setter: what it answers, how it stands then -/
def Does (c : CA) (x : Addr) (d : Stt) (k : IhColumns.Call) (H : Hp) (Q : VK) : Prop := ∀ (v : V) (H' : Hp), Same (Hide H x) H' → SttAt c H' x (IhColumns.step d k).1 → AnsR H' v (CoNeutral.numbers (IhColumns.step d k).2) → Q v H'
def sp_Setter_init (K : PySem.W.Frag) (c : CA) : Sp := fun vs H Q _ => ∃ (x dx : Addr), vs = [.ref x] ∧ H x = some (.ins c.se dx []) ∧ ∀ H' : Hp, Same (Hide H x) H' → SttAt c H' x IhColumns.start → Q .non H'
def sp_Setter_take_sheet (K : PySem.W.Frag) (c : CA) : Sp := fun vs H Q _ => ∃ (x an : Addr) (vl : V) (d : Stt) (w h i1 i2 i3 t g : Nat) (ws : List IhColumn.Width) (cut : List Nat), vs = [.ref x, .ref an, vl] ∧ SttAt c H x d ∧ SqL K H an (nvs [w, h, i1, i2, i3, t, g]) ∧
  LsR NsR H vl [wN ws, cut] ∧ ws.length ≤ 1000000 ∧ cut.length ≤ 1000000 ∧ Does c x d (.sheet ⟨w, h, [i1, i2, i3], t, g⟩ ws cut) H Q
def sp_Setter_take_paragraphs (K : PySem.W.Frag) (c : CA) : Sp := fun vs H Q _ => ∃ (x : Addr) (vn vl : V) (d : Stt) (ps : List Par), vs = [.ref x, vn, vl] ∧ SttAt c H x d ∧ Good d ∧ LsR NsR H vl (ps.map fun (p : Par) => p.depth :: p.group :: p.lead :: p.text) ∧
  ps.length ≤ 1000000 ∧ (∀ p ∈ ps, p.text.length ≤ 1000000) ∧ Does c x d (.set ps) H Q
def sp_Setter_tell_line (K : PySem.W.Frag) (c : CA) : Sp := fun vs H Q _ => ∃ (x an : Addr) (vl : V) (d : Stt) (i : Nat), vs = [.ref x, .ref an, vl] ∧ SttAt c H x d ∧ Good d ∧ SqL K H an (nvs [i]) ∧ Does c x d (.line i) H Q
def sp_Setter_tell_where (K : PySem.W.Frag) (c : CA) : Sp := fun vs H Q _ => ∃ (x an : Addr) (vl : V) (d : Stt) (p i : Nat), vs = [.ref x, .ref an, vl] ∧ SttAt c H x d ∧ SqL K H an (nvs [p, i]) ∧ Does c x d (.where_ p i) H Q
def sp_Setter_tell_columns (K : PySem.W.Frag) (c : CA) : Sp := fun vs H Q _ => ∃ (x : Addr) (vn vl : V) (d : Stt), vs = [.ref x, vn, vl] ∧ SttAt c H x d ∧ Good d ∧ Does c x d .columns H Q
/-- a call by its numbers -/
inductive Told : Nat → List Nat → List (List Nat) → IhColumns.Call → Prop where
  | sheet (w h i1 i2 i3 t g : Nat) (ws : List IhColumn.Width) (cut : List Nat) : ws.length ≤ 1000000 → cut.length ≤ 1000000 → Told 1 [w, h, i1, i2, i3, t, g] [wN ws, cut] (.sheet ⟨w, h, [i1, i2, i3], t, g⟩ ws cut)
  | set (ps : List Par) : ps.length ≤ 1000000 → (∀ p ∈ ps, p.text.length ≤ 1000000) → Told 2 [] (ps.map fun (p : Par) => p.depth :: p.group :: p.lead :: p.text) (.set ps)
  | line (i : Nat) : Told 3 [i] [] (.line i)
  | where_ (p i : Nat) : Told 4 [p, i] [] (.where_ p i)
  | columns : Told 5 [] [] .columns
def sp_answer (K : PySem.W.Frag) (c : CA) : Sp := fun vs H Q _ => ∃ (x an : Addr) (vl : V) (d : Stt) (p : Nat) (xs : List Nat) (rows : List (List Nat)) (k : IhColumns.Call), vs = [.ref x, nv p, .ref an, vl] ∧ SttAt c H x d ∧ Good d ∧ SqL K H an (nvs xs) ∧ LsR NsR H vl rows ∧
  Told p xs rows k ∧ Does c x d k H Q
/-- rows read off a list of numbers: how many, then each with its length -/
def rowsN : Nat → List Nat → Option (List (List Nat) × List Nat)
  | 0, r => some ([], r)
  | _ + 1, [] => none
  | k + 1, n :: r => if n ≤ r.length then (rowsN k (r.drop n)).map fun p => (r.take n :: p.1, p.2) else none
def sp_lists_at (K : PySem.W.Frag) (c : CA) : Sp := fun vs H Q _ => ∃ (a : Addr) (ns : List Nat) (i k : Nat) (r u : List Nat) (rows : List (List Nat)), vs = [.ref a, nv i] ∧ SqL K H a (nvs ns) ∧ ns.length ≤ 100000 ∧ ns.drop i = k :: r ∧ k ≤ 100000 ∧ rowsN k r = some (rows, u) ∧
  ∀ (v vl : V) (t : Addr) (H' : Hp), Same H H' → v = .ref t → H' t = some (.tup [vl, nv (ns.length - u.length)]) → LsR NsR H' vl rows → Q v H'
def sp_answers (K : PySem.W.Frag) (c : CA) : Sp := fun vs H Q _ => ∃ (a : Addr) (ns : List Int), vs = [.ref a] ∧ SqL K H a (ns.map V.int) ∧ ns.length ≤ 31000 ∧ (∀ z ∈ ns, 0 ≤ z) ∧ PyWqakbg.answers_asked ns = true ∧
  ∀ (H' : Hp) (p : Addr), H' p = some (.lst ((PyWqakbg.answers ns).map V.int)) → Q (.ref p) H'

/-! ## how many arguments -/
section
variable {K : PySem.W.Frag} {c : CA}
theorem len_Sheet_init : ∀ (vs : List V) (H : Hp) (Q : VK) (E : XK), sp_Sheet_init K c vs H Q E → vs.length = (P_Sheet_init).length := by
  rintro vs H Q E ⟨_, _, _, _, _, _, _, _, _, _, _, _, _, _, rfl, _⟩
  rfl
theorem len_first_sheet : ∀ (vs : List V) (H : Hp) (Q : VK) (E : XK), sp_first_sheet K c vs H Q E → vs.length = (P_first_sheet).length := by
  rintro vs H Q E ⟨rfl, _⟩
  rfl
theorem len_sign_of : ∀ (vs : List V) (H : Hp) (Q : VK) (E : XK), sp_sign_of K c vs H Q E → vs.length = (P_sign_of).length := by
  rintro vs H Q E ⟨_, _, _, rfl, _⟩
  rfl
theorem len_signs_of : ∀ (vs : List V) (H : Hp) (Q : VK) (E : XK), sp_signs_of K c vs H Q E → vs.length = (P_signs_of).length := by
  rintro vs H Q E ⟨_, _, _, _, rfl, _⟩
  rfl
theorem len_width_of : ∀ (vs : List V) (H : Hp) (Q : VK) (E : XK), sp_width_of K c vs H Q E → vs.length = (P_width_of).length := by
  rintro vs H Q E ⟨_, _, rfl, _⟩
  rfl
theorem len_room_of : ∀ (vs : List V) (H : Hp) (Q : VK) (E : XK), sp_room_of K c vs H Q E → vs.length = (P_room_of).length := by
  rintro vs H Q E ⟨_, _, _, _, rfl, _⟩
  rfl
theorem len_are_right_widths : ∀ (vs : List V) (H : Hp) (Q : VK) (E : XK), sp_are_right_widths K c vs H Q E → vs.length = (P_are_right_widths).length := by
  rintro vs H Q E ⟨_, _, rfl, _⟩
  rfl
theorem len_sheet_refusal : ∀ (vs : List V) (H : Hp) (Q : VK) (E : XK), sp_sheet_refusal K c vs H Q E → vs.length = (P_sheet_refusal).length := by
  rintro vs H Q E ⟨_, _, rfl, _⟩
  rfl
theorem len_Setting_init : ∀ (vs : List V) (H : Hp) (Q : VK) (E : XK), sp_Setting_init K c vs H Q E → vs.length = (P_Setting_init).length := by
  rintro vs H Q E ⟨_, _, _, rfl, _⟩
  rfl
theorem len_Setting_put : ∀ (vs : List V) (H : Hp) (Q : VK) (E : XK), sp_Setting_put K c vs H Q E → vs.length = (P_Setting_put).length := by
  rintro vs H Q E ⟨_, _, _, _, _, _, _, rfl, _⟩
  rfl
theorem len_Setting_leave : ∀ (vs : List V) (H : Hp) (Q : VK) (E : XK), sp_Setting_leave K c vs H Q E → vs.length = (P_Setting_leave).length := by
  rintro vs H Q E ⟨_, _, _, _, rfl, _⟩
  rfl
theorem len_Setting_turn_column : ∀ (vs : List V) (H : Hp) (Q : VK) (E : XK), sp_Setting_turn_column K c vs H Q E → vs.length = (P_Setting_turn_column).length := by
  rintro vs H Q E ⟨_, _, _, rfl, _⟩
  rfl
theorem len_main_of : ∀ (vs : List V) (H : Hp) (Q : VK) (E : XK), sp_main_of K c vs H Q E → vs.length = (P_main_of).length := by
  rintro vs H Q E ⟨_, _, _, rfl, _⟩
  rfl
theorem len_lead_kept : ∀ (vs : List V) (H : Hp) (Q : VK) (E : XK), sp_lead_kept K c vs H Q E → vs.length = (P_lead_kept).length := by
  rintro vs H Q E ⟨_, _, _, _, rfl, _⟩
  rfl
theorem len_rows_alone : ∀ (vs : List V) (H : Hp) (Q : VK) (E : XK), sp_rows_alone K c vs H Q E → vs.length = (P_rows_alone).length := by
  rintro vs H Q E ⟨_, _, rfl, _⟩
  rfl
theorem len_rows_needed : ∀ (vs : List V) (H : Hp) (Q : VK) (E : XK), sp_rows_needed K c vs H Q E → vs.length = (P_rows_needed).length := by
  rintro vs H Q E ⟨_, _, _, _, _, _, _, _, rfl, _⟩
  rfl
theorem len_begins_group : ∀ (vs : List V) (H : Hp) (Q : VK) (E : XK), sp_begins_group K c vs H Q E → vs.length = (P_begins_group).length := by
  rintro vs H Q E ⟨_, _, _, _, rfl, _⟩
  rfl
theorem len_set_line : ∀ (vs : List V) (H : Hp) (Q : VK) (E : XK), sp_set_line K c vs H Q E → vs.length = (P_set_line).length := by
  rintro vs H Q E ⟨_, _, _, _, _, _, _, _, _, _, _, _, _, _, rfl, _⟩
  rfl
theorem len_set_all : ∀ (vs : List V) (H : Hp) (Q : VK) (E : XK), sp_set_all K c vs H Q E → vs.length = (P_set_all).length := by
  rintro vs H Q E ⟨_, _, _, _, _, _, rfl, _⟩
  rfl
theorem len_text_end : ∀ (vs : List V) (H : Hp) (Q : VK) (E : XK), sp_text_end K c vs H Q E → vs.length = (P_text_end).length := by
  rintro vs H Q E ⟨_, _, _, rfl, _⟩
  rfl
theorem len_line_begin : ∀ (vs : List V) (H : Hp) (Q : VK) (E : XK), sp_line_begin K c vs H Q E → vs.length = (P_line_begin).length := by
  rintro vs H Q E ⟨_, _, _, _, rfl, _⟩
  rfl
theorem len_is_break : ∀ (vs : List V) (H : Hp) (Q : VK) (E : XK), sp_is_break K c vs H Q E → vs.length = (P_is_break).length := by
  rintro vs H Q E ⟨_, _, _, _, _, rfl, _⟩
  rfl
theorem len_best_or : ∀ (vs : List V) (H : Hp) (Q : VK) (E : XK), sp_best_or K c vs H Q E → vs.length = (P_best_or).length := by
  rintro vs H Q E ⟨_, _, rfl, _⟩
  rfl
theorem len_line_end : ∀ (vs : List V) (H : Hp) (Q : VK) (E : XK), sp_line_end K c vs H Q E → vs.length = (P_line_end).length := by
  rintro vs H Q E ⟨_, _, _, _, _, _, rfl, _⟩
  rfl
theorem len_text_lines : ∀ (vs : List V) (H : Hp) (Q : VK) (E : XK), sp_text_lines K c vs H Q E → vs.length = (P_text_lines).length := by
  rintro vs H Q E ⟨_, _, _, _, _, rfl, _⟩
  rfl
theorem len_Paragraph_init : ∀ (vs : List V) (H : Hp) (Q : VK) (E : XK), sp_Paragraph_init K c vs H Q E → vs.length = (P_Paragraph_init).length := by
  rintro vs H Q E ⟨_, _, _, _, _, _, _, rfl, _⟩
  rfl
theorem len_is_right : ∀ (vs : List V) (H : Hp) (Q : VK) (E : XK), sp_is_right K c vs H Q E → vs.length = (P_is_right).length := by
  rintro vs H Q E ⟨_, _, _, rfl, _⟩
  rfl
theorem len_first_wrong : ∀ (vs : List V) (H : Hp) (Q : VK) (E : XK), sp_first_wrong K c vs H Q E → vs.length = (P_first_wrong).length := by
  rintro vs H Q E ⟨_, _, rfl, _⟩
  rfl
theorem len_are_blanks : ∀ (vs : List V) (H : Hp) (Q : VK) (E : XK), sp_are_blanks K c vs H Q E → vs.length = (P_are_blanks).length := by
  rintro vs H Q E ⟨_, _, _, rfl, _⟩
  rfl
theorem len_first_blank : ∀ (vs : List V) (H : Hp) (Q : VK) (E : XK), sp_first_blank K c vs H Q E → vs.length = (P_first_blank).length := by
  rintro vs H Q E ⟨_, _, _, _, rfl, _⟩
  rfl
theorem len_all_lines : ∀ (vs : List V) (H : Hp) (Q : VK) (E : XK), sp_all_lines K c vs H Q E → vs.length = (P_all_lines).length := by
  rintro vs H Q E ⟨_, _, _, _, rfl, _⟩
  rfl
theorem len_first_none : ∀ (vs : List V) (H : Hp) (Q : VK) (E : XK), sp_first_none K c vs H Q E → vs.length = (P_first_none).length := by
  rintro vs H Q E ⟨_, _, rfl, _⟩
  rfl
theorem len_character_count : ∀ (vs : List V) (H : Hp) (Q : VK) (E : XK), sp_character_count K c vs H Q E → vs.length = (P_character_count).length := by
  rintro vs H Q E ⟨_, _, rfl, _⟩
  rfl
theorem len_Setter_init : ∀ (vs : List V) (H : Hp) (Q : VK) (E : XK), sp_Setter_init K c vs H Q E → vs.length = (P_Setter_init).length := by
  rintro vs H Q E ⟨_, _, rfl, _⟩
  rfl
theorem len_Setter_take_sheet : ∀ (vs : List V) (H : Hp) (Q : VK) (E : XK), sp_Setter_take_sheet K c vs H Q E → vs.length = (P_Setter_take_sheet).length := by
  rintro vs H Q E ⟨_, _, _, _, _, _, _, _, _, _, _, _, _, rfl, _⟩
  rfl
theorem len_Setter_take_paragraphs : ∀ (vs : List V) (H : Hp) (Q : VK) (E : XK), sp_Setter_take_paragraphs K c vs H Q E → vs.length = (P_Setter_take_paragraphs).length := by
  rintro vs H Q E ⟨_, _, _, _, _, rfl, _⟩
  rfl
theorem len_Setter_tell_line : ∀ (vs : List V) (H : Hp) (Q : VK) (E : XK), sp_Setter_tell_line K c vs H Q E → vs.length = (P_Setter_tell_line).length := by
  rintro vs H Q E ⟨_, _, _, _, _, rfl, _⟩
  rfl
theorem len_Setter_tell_where : ∀ (vs : List V) (H : Hp) (Q : VK) (E : XK), sp_Setter_tell_where K c vs H Q E → vs.length = (P_Setter_tell_where).length := by
  rintro vs H Q E ⟨_, _, _, _, _, _, rfl, _⟩
  rfl
theorem len_Setter_tell_columns : ∀ (vs : List V) (H : Hp) (Q : VK) (E : XK), sp_Setter_tell_columns K c vs H Q E → vs.length = (P_Setter_tell_columns).length := by
  rintro vs H Q E ⟨_, _, _, _, rfl, _⟩
  rfl
theorem len_answer : ∀ (vs : List V) (H : Hp) (Q : VK) (E : XK), sp_answer K c vs H Q E → vs.length = (P_answer).length := by
  rintro vs H Q E ⟨_, _, _, _, _, _, _, _, rfl, _⟩
  rfl
theorem len_lists_at : ∀ (vs : List V) (H : Hp) (Q : VK) (E : XK), sp_lists_at K c vs H Q E → vs.length = (P_lists_at).length := by
  rintro vs H Q E ⟨_, _, _, _, _, _, _, rfl, _⟩
  rfl
theorem len_answers : ∀ (vs : List V) (H : Hp) (Q : VK) (E : XK), sp_answers K c vs H Q E → vs.length = (P_answers).length := by
  rintro vs H Q E ⟨_, _, rfl, _⟩
  rfl
end
end HC

/-! # headcolumns: the derivations -/
namespace HC
open PySem PySem.Spec PyProof.Rows L2
variable {P : Program} {w : World} {K : PySem.W.Frag} {mg : Str → Option Value} {base : Heap} {c : CA}
theorem sc_Sheet_init : FnScope N_Sheet_init P_Sheet_init (defScope s_Sheet_init) := ⟨rfl, rfl, rfl, by decide +kernel, rfl, by decide +kernel, by decide +kernel⟩
theorem d_Sheet_init {f : Addr} {cdv : Value} {A : Around} {outer : List Env} {s : Shared} {H : Hp} {E : XK} (T : Txt K mg c) (hr : Room 0 (A.deeper (envOfC "Sheet.__init__" (defScope s_Sheet_init) s.heap.objs.size f cdv))) :
    PSs (cxOf CX0 P w K mg base N_Sheet_init "Sheet.__init__" (defScope s_Sheet_init) f cdv A outer s H E).nox (defBody s_Sheet_init) (t_Sheet_init K c) :=
  (pss_cons (ps_fld (pv 0) (pe_ix ix_list (pv 1) pe_int (fun _ _ => rfl)) rfl)
    (pss_cons (ps_fld (pv 0) (pe_ix ix_list (pv 1) pe_int (fun _ _ => rfl)) rfl)
    (pss_cons (ps_fld (pv 0) (pe_callTy call_list_of (by rfl) T.b_list (by decide +kernel) (pa_cons (pe_slice sl_list (pv 1) (po_some pe_int) (po_some pe_int)) pa_nil)) rfl)
    (pss_cons (ps_fld (pv 0) (pe_ix ix_list (pv 1) pe_int (fun _ _ => rfl)) rfl)
    (pss_cons (ps_fld (pv 0) (pe_ix ix_list (pv 1) pe_int (fun _ _ => rfl)) rfl)
    (pss_cons (ps_fld (pv 0) (pe_callTy call_list_of (by rfl) T.b_list (by decide +kernel) (pa_cons (pv 2) pa_nil)) rfl)
    (pss_one (ps_fld (pv 0) (pe_callTy call_list_of (by rfl) T.b_list (by decide +kernel) (pa_cons (pv 3) pa_nil)) rfl))))))))

theorem sc_first_sheet : FnScope N_first_sheet P_first_sheet (defScope s_first_sheet) := ⟨rfl, rfl, rfl, by decide +kernel, rfl, by decide +kernel, by decide +kernel⟩
theorem d_first_sheet {f : Addr} {cdv : Value} {A : Around} {outer : List Env} {s : Shared} {H : Hp} {E : XK} {q_Sheet_init : Sp} (T : Txt K mg c) (hr : Room 2 (A.deeper (envOfC "first_sheet" (defScope s_first_sheet) s.heap.objs.size f cdv))) (D_Sheet_init : Idf P w K mg base c.sh P_Sheet_init 1 q_Sheet_init) :
    PSs (cxOf CX0 P w K mg base N_first_sheet "first_sheet" (defScope s_first_sheet) f cdv A outer s H E).nox (defBody s_first_sheet) (t_first_sheet K c q_Sheet_init) :=
  (pss_one (ps_ret (pe_id D_Sheet_init (hr.mono (by decide)) rfl T.gsh (pa_cons (pe_lst (pa_cons pe_int (pa_cons (pe_cst rfl T.kLEAST_HEIGHT) (pa_cons pe_int (pa_cons pe_int (pa_cons pe_int (pa_cons pe_int (pa_cons pe_int pa_nil)))))))) (pa_cons (pe_lst pa_nil) (pa_cons (pe_lst pa_nil) pa_nil))))))

theorem sc_sign_of : FnScope N_sign_of P_sign_of (defScope s_sign_of) := ⟨rfl, rfl, rfl, by decide +kernel, rfl, by decide +kernel, by decide +kernel⟩
theorem d_sign_of {f : Addr} {cdv : Value} {A : Around} {outer : List Env} {s : Shared} {H : Hp} {E : XK} (T : Txt K mg c) (hr : Room 0 (A.deeper (envOfC "sign_of" (defScope s_sign_of) s.heap.objs.size f cdv))) :
    PSs (cxOf CX0 P w K mg base N_sign_of "sign_of" (defScope s_sign_of) f cdv A outer s H E).nox (defBody s_sign_of) (t_sign_of K c) :=
  (pss_cons (ps_set (i := 2) sc_sign_of.nd rfl (Or.inl rfl) (pe_f (pv 0) rfl))
    (pss_cons (ps_for PassesOwn.never rfl (pi_range3 rfl T.b_range (pa_cons pe_int (pa_cons (pe_callB call_len_seq (by rfl) T.b_len PySem.boot_len (pa_cons (pv 2) pa_nil)) (pa_cons pe_int pa_nil)))) (pg_name (i := 3) sc_sign_of.nd rfl (Or.inl rfl)) (pss_one (ps_if (pt_chain op_le op_le (pe_ix ix_list (pv 2) (pv 3) (fun _ _ => rfl)) (pv 1) (pe_ix ix_list (pv 2) (pe_op op_add (pv 3) pe_int) (fun _ _ => rfl))) (pss_one (ps_ret (pe_tup (pa_cons (pe_ix ix_list (pv 2) (pe_op op_add (pv 3) pe_int) (fun _ _ => rfl)) (pa_cons (pe_ix ix_list (pv 2) (pe_op op_add (pv 3) pe_int) (fun _ _ => rfl)) pa_nil))))) pss_nil)))
    (pss_one (ps_ret (pe_tup (pa_cons pe_int (pa_cons (pe_cst rfl T.kPLAIN) pa_nil)))))))

theorem sc_signs_of : FnScope N_signs_of P_signs_of (defScope s_signs_of) := ⟨rfl, rfl, rfl, by decide +kernel, rfl, by decide +kernel, by decide +kernel⟩
theorem d_signs_of {f : Addr} {cdv : Value} {A : Around} {outer : List Env} {s : Shared} {H : Hp} {E : XK} {q_sign_of : Sp} (T : Txt K mg c) (hr : Room 1 (A.deeper (envOfC "signs_of" (defScope s_signs_of) s.heap.objs.size f cdv))) (D_sign_of : Df P w K mg base "sign_of" P_sign_of 1 q_sign_of) :
    PSs (cxOf CX0 P w K mg base N_signs_of "signs_of" (defScope s_signs_of) f cdv A outer s H E).nox (defBody s_signs_of) (t_signs_of K c q_sign_of) :=
  (pss_cons (ps_set (i := 2) sc_signs_of.nd rfl (Or.inl rfl) pe_dnewK)
    (pss_cons (ps_set (i := 3) sc_signs_of.nd rfl (Or.inl rfl) (pe_lst pa_nil))
    (pss_cons (ps_for PassesOwn.never rfl (pi_list (pv 1)) (pg_name (i := 4) sc_signs_of.nd rfl (Or.inl rfl)) (pss_cons (ps_if (pt_cmp (pc_dnotin (hu_of hr) (pv 4) (pv 2))) (pss_one (ps_dput (hu_of hr) (pv 2) (pv 4) (pe_df D_sign_of (hr.mono (by decide)) rfl (pa_cons (pv 0) (pa_cons (pv 4) pa_nil))) rfl)) pss_nil)
    (pss_one (ps_expr (pe_bm PySem.F.plainAttrs_list PySem.F.slot_list_append PySem.F.type_list_append mt_append (pv 3) (pa_cons (pe_dget (hu_of hr) (pv 2) (pv 4) (fun _ _ => rfl)) pa_nil))))))
    (pss_one (ps_ret (pv 3))))))

theorem sc_width_of : FnScope N_width_of P_width_of (defScope s_width_of) := ⟨rfl, rfl, rfl, by decide +kernel, rfl, by decide +kernel, by decide +kernel⟩
theorem d_width_of {f : Addr} {cdv : Value} {A : Around} {outer : List Env} {s : Shared} {H : Hp} {E : XK} (T : Txt K mg c) (hr : Room 0 (A.deeper (envOfC "width_of" (defScope s_width_of) s.heap.objs.size f cdv))) :
    PSs (cxOf CX0 P w K mg base N_width_of "width_of" (defScope s_width_of) f cdv A outer s H E).nox (defBody s_width_of) (t_width_of K c) :=
  (pss_one (ps_ret (pe_callB (cr_sum rfl) (by rfl) T.b_sum (by decide +kernel) (pa_cons (pe_lc (own := [("width", 1), ("kind", 2)]) (g := (gTup K 2 (gCons (gName 1) (gCons (gName 2) gNil)))) (tt := tYes) rfl sc_width_of.nd (pi_list (pv 0)) (blkOk_by (own := [("width", 1), ("kind", 2)]) (N := N_width_of) (sc := defScope s_width_of) (by decide +kernel)) (fun _ _ _ _ _ => (pg_tup rfl (pgs_cons (pg_name (i := 1) sc_width_of.nd rfl (Or.inl rfl)) (pgs_cons (pg_name (i := 2) sc_width_of.nd rfl (Or.inl rfl)) pgs_nil)))) (fun _ _ _ _ _ => pts_nil) (fun _ _ _ _ _ => (pv 1))) pa_nil))))

theorem sc_room_of : FnScope N_room_of P_room_of (defScope s_room_of) := ⟨rfl, rfl, rfl, by decide +kernel, rfl, by decide +kernel, by decide +kernel⟩
theorem d_room_of {f : Addr} {cdv : Value} {A : Around} {outer : List Env} {s : Shared} {H : Hp} {E : XK} (T : Txt K mg c) (hr : Room 0 (A.deeper (envOfC "room_of" (defScope s_room_of) s.heap.objs.size f cdv))) :
    PSs (cxOf CX0 P w K mg base N_room_of "room_of" (defScope s_room_of) f cdv A outer s H E).nox (defBody s_room_of) (t_room_of K c) :=
  (pss_cons (ps_set (i := 3) sc_room_of.nd rfl (Or.inl rfl) (pe_op op_sub (pe_f (pv 0) rfl) (pe_ix ix_list (pe_f (pv 0) rfl) (pe_op op_sub (pv 1) pe_int) (fun _ _ => rfl))))
    (pss_cons (ps_if (pt_not (pt_val (pv 2))) (pss_one (ps_set (i := 3) sc_room_of.nd rfl (Or.inl rfl) (pe_op op_sub (pv 3) (pe_f (pv 0) rfl)))) pss_nil)
    (pss_one (ps_ret (pe_callB (call_max2 rfl) (by rfl) T.b_max (by decide +kernel) (pa_cons (pv 3) (pa_cons pe_int pa_nil)))))))

theorem sc_are_right_widths : FnScope N_are_right_widths P_are_right_widths (defScope s_are_right_widths) := ⟨rfl, rfl, rfl, by decide +kernel, rfl, by decide +kernel, by decide +kernel⟩
theorem d_are_right_widths {f : Addr} {cdv : Value} {A : Around} {outer : List Env} {s : Shared} {H : Hp} {E : XK} (T : Txt K mg c) (hr : Room 0 (A.deeper (envOfC "are_right_widths" (defScope s_are_right_widths) s.heap.objs.size f cdv))) :
    PSs (cxOf CX0 P w K mg base N_are_right_widths "are_right_widths" (defScope s_are_right_widths) f cdv A outer s H E).nox (defBody s_are_right_widths) (t_are_right_widths K c) :=
  (pss_cons (ps_for PassesOwn.never rfl (pi_range3 rfl T.b_range (pa_cons pe_int (pa_cons (pe_callB call_len_seq (by rfl) T.b_len PySem.boot_len (pa_cons (pv 0) pa_nil)) (pa_cons pe_int pa_nil)))) (pg_name (i := 1) sc_are_right_widths.nd rfl (Or.inl rfl)) (pss_one (ps_if (PW.pt (pw_or (pt_cmpR op_gt (pe_ix ix_list (pv 0) (pv 1) (fun _ _ => rfl)) (pe_ix ix_list (pv 0) (pe_op op_add (pv 1) pe_int) (fun _ _ => rfl)) (nomark _)) (pw_or1 (pt_cmpR op_gt (pe_ix ix_list (pv 0) (pe_op op_add (pv 1) pe_int) (fun _ _ => rfl)) (pe_cst rfl T.kBREAK) (nomark _))))) (pss_one (ps_ret pe_bl)) pss_nil)))
    (pss_one (ps_ret pe_bl)))

theorem sc_sheet_refusal : FnScope N_sheet_refusal P_sheet_refusal (defScope s_sheet_refusal) := ⟨rfl, rfl, rfl, by decide +kernel, rfl, by decide +kernel, by decide +kernel⟩
theorem d_sheet_refusal {f : Addr} {cdv : Value} {A : Around} {outer : List Env} {s : Shared} {H : Hp} {E : XK} {q_are_right_widths q_width_of q_signs_of : Sp} (T : Txt K mg c) (hr : Room 2 (A.deeper (envOfC "sheet_refusal" (defScope s_sheet_refusal) s.heap.objs.size f cdv))) (D_are_right_widths : Df P w K mg base "are_right_widths" P_are_right_widths 1 q_are_right_widths) (D_width_of : Df P w K mg base "width_of" P_width_of 1 q_width_of) (D_signs_of : Df P w K mg base "signs_of" P_signs_of 2 q_signs_of) :
    PSs (cxOf CX0 P w K mg base N_sheet_refusal "sheet_refusal" (defScope s_sheet_refusal) f cdv A outer s H E).nox (defBody s_sheet_refusal) (t_sheet_refusal K c q_are_right_widths q_width_of q_signs_of) :=
  (pss_cons (ps_if (PW.pt (pw_or (pt_cmpR op_lt (pe_f (pv 0) rfl) (pe_cst rfl T.kLEAST_HEIGHT) (nomark _)) (pw_or (pt_cmpR op_gt (pe_f (pv 0) rfl) (pe_cst rfl T.kMOST_HEIGHT) (nomark _)) (pw_or1 (pt_cmpR op_gt (pe_f (pv 0) rfl) (pe_cst rfl T.kMOST_GAP) (nomark _)))))) (pss_one (ps_ret pe_int)) pss_nil)
    (pss_cons (ps_if (PW.pt (pw_or (pt_cmpR op_gt (pe_f (pv 0) rfl) (pe_cst rfl T.kMOST_WIDTH) (nomark _)) (pw_or (pt_cmpR op_gt (pe_callB call_len_seq (by rfl) T.b_len PySem.boot_len (pa_cons (pe_f (pv 0) rfl) pa_nil)) (pe_op op_mul pe_int (pe_cst rfl T.kMOST_WIDTHS)) (nomark _)) (pw_or1 (pt_cmpR op_gt (pe_callB call_len_seq (by rfl) T.b_len PySem.boot_len (pa_cons (pe_f (pv 0) rfl) pa_nil)) (pe_cst rfl T.kMOST_CUT) (nomark _)))))) (pss_one (ps_ret pe_int)) pss_nil)
    (pss_cons (ps_if (pt_not (pt_val (pe_df D_are_right_widths (hr.mono (by decide)) rfl (pa_cons (pe_f (pv 0) rfl) pa_nil)))) (pss_one (ps_ret pe_int)) pss_nil)
    (pss_cons (ps_if (pt_cmpR op_gt (pe_df D_width_of (hr.mono (by decide)) rfl (pa_cons (pe_df D_signs_of (hr.mono (by decide)) rfl (pa_cons (pv 0) (pa_cons (pe_f (pv 0) rfl) pa_nil))) pa_nil)) (pe_f (pv 0) rfl) (nomark _)) (pss_one (ps_ret pe_int)) pss_nil)
    (pss_one (ps_ret pe_int))))))

theorem sc_Setting_init : FnScope N_Setting_init P_Setting_init (defScope s_Setting_init) := ⟨rfl, rfl, rfl, by decide +kernel, rfl, by decide +kernel, by decide +kernel⟩
theorem d_Setting_init {f : Addr} {cdv : Value} {A : Around} {outer : List Env} {s : Shared} {H : Hp} {E : XK} (T : Txt K mg c) (hr : Room 0 (A.deeper (envOfC "Setting.__init__" (defScope s_Setting_init) s.heap.objs.size f cdv))) :
    PSs (cxOf CX0 P w K mg base N_Setting_init "Setting.__init__" (defScope s_Setting_init) f cdv A outer s H E).nox (defBody s_Setting_init) (t_Setting_init K c) :=
  (pss_cons (ps_fld (pv 0) (pe_lst pa_nil) rfl)
    (pss_cons (ps_fld (pv 0) pe_int rfl)
    (pss_one (ps_fld (pv 0) pe_int rfl))))

theorem sc_Setting_put : FnScope N_Setting_put P_Setting_put (defScope s_Setting_put) := ⟨rfl, rfl, rfl, by decide +kernel, rfl, by decide +kernel, by decide +kernel⟩
theorem d_Setting_put {f : Addr} {cdv : Value} {A : Around} {outer : List Env} {s : Shared} {H : Hp} {E : XK} (T : Txt K mg c) (hr : Room 0 (A.deeper (envOfC "Setting.put" (defScope s_Setting_put) s.heap.objs.size f cdv))) :
    PSs (cxOf CX0 P w K mg base N_Setting_put "Setting.put" (defScope s_Setting_put) f cdv A outer s H E).nox (defBody s_Setting_put) (t_Setting_put K c) :=
  (pss_cons (ps_expr (pe_bm PySem.F.plainAttrs_list PySem.F.slot_list_append PySem.F.type_list_append mt_append (pe_f (pv 0) rfl) (pa_cons (pe_tup (pa_cons (pe_f (pv 0) rfl) (pa_cons (pe_f (pv 0) rfl) (pa_cons (pv 1) (pa_cons (pv 2) (pa_cons (pv 3) (pa_cons (pv 4) pa_nil))))))) pa_nil)))
    (pss_one (ps_fld (pv 0) (pe_op op_add (pe_f (pv 0) rfl) pe_int) rfl)))

theorem sc_Setting_leave : FnScope N_Setting_leave P_Setting_leave (defScope s_Setting_leave) := ⟨rfl, rfl, rfl, by decide +kernel, rfl, by decide +kernel, by decide +kernel⟩
theorem d_Setting_leave {f : Addr} {cdv : Value} {A : Around} {outer : List Env} {s : Shared} {H : Hp} {E : XK} (T : Txt K mg c) (hr : Room 0 (A.deeper (envOfC "Setting.leave" (defScope s_Setting_leave) s.heap.objs.size f cdv))) :
    PSs (cxOf CX0 P w K mg base N_Setting_leave "Setting.leave" (defScope s_Setting_leave) f cdv A outer s H E).nox (defBody s_Setting_leave) (t_Setting_leave K c) :=
  (pss_one (ps_if (pt_cmpR op_gt (pe_f (pv 0) rfl) pe_int (nomark _)) (pss_one (ps_fld (pv 0) (pe_op op_add (pe_f (pv 0) rfl) (pv 1)) rfl)) pss_nil))

theorem sc_Setting_turn_column : FnScope N_Setting_turn_column P_Setting_turn_column (defScope s_Setting_turn_column) := ⟨rfl, rfl, rfl, by decide +kernel, rfl, by decide +kernel, by decide +kernel⟩
theorem d_Setting_turn_column {f : Addr} {cdv : Value} {A : Around} {outer : List Env} {s : Shared} {H : Hp} {E : XK} (T : Txt K mg c) (hr : Room 0 (A.deeper (envOfC "Setting.turn_column" (defScope s_Setting_turn_column) s.heap.objs.size f cdv))) :
    PSs (cxOf CX0 P w K mg base N_Setting_turn_column "Setting.turn_column" (defScope s_Setting_turn_column) f cdv A outer s H E).nox (defBody s_Setting_turn_column) (t_Setting_turn_column K c) :=
  (pss_cons (ps_fld (pv 0) (pe_op op_add (pe_f (pv 0) rfl) pe_int) rfl)
    (pss_one (ps_fld (pv 0) pe_int rfl)))

theorem sc_main_of : FnScope N_main_of P_main_of (defScope s_main_of) := ⟨rfl, rfl, rfl, by decide +kernel, rfl, by decide +kernel, by decide +kernel⟩
theorem d_main_of {f : Addr} {cdv : Value} {A : Around} {outer : List Env} {s : Shared} {H : Hp} {E : XK} (T : Txt K mg c) (hr : Room 0 (A.deeper (envOfC "main_of" (defScope s_main_of) s.heap.objs.size f cdv))) :
    PSs (cxOf CX0 P w K mg base N_main_of "main_of" (defScope s_main_of) f cdv A outer s H E).nox (defBody s_main_of) (t_main_of K c) :=
  (pss_cons (ps_while PassesOwn.never (pt_cmpR op_ne (pe_f (pe_ix ix_list (pv 0) (pv 1) (fun _ _ => rfl)) rfl) pe_int (nomark _)) (pss_one (ps_set (i := 1) sc_main_of.nd rfl (Or.inl rfl) (pe_op op_sub (pv 1) pe_int))))
    (pss_one (ps_ret (pv 1))))

theorem sc_lead_kept : FnScope N_lead_kept P_lead_kept (defScope s_lead_kept) := ⟨rfl, rfl, rfl, by decide +kernel, rfl, by decide +kernel, by decide +kernel⟩
theorem d_lead_kept {f : Addr} {cdv : Value} {A : Around} {outer : List Env} {s : Shared} {H : Hp} {E : XK} {q_width_of q_signs_of : Sp} (T : Txt K mg c) (hr : Room 2 (A.deeper (envOfC "lead_kept" (defScope s_lead_kept) s.heap.objs.size f cdv))) (D_width_of : Df P w K mg base "width_of" P_width_of 1 q_width_of) (D_signs_of : Df P w K mg base "signs_of" P_signs_of 2 q_signs_of) :
    PSs (cxOf CX0 P w K mg base N_lead_kept "lead_kept" (defScope s_lead_kept) f cdv A outer s H E).nox (defBody s_lead_kept) (t_lead_kept K c q_width_of q_signs_of) :=
  (pss_cons (ps_set (i := 2) sc_lead_kept.nd rfl (Or.inl rfl) (pe_df D_width_of (hr.mono (by decide)) rfl (pa_cons (pe_df D_signs_of (hr.mono (by decide)) rfl (pa_cons (pv 0) (pa_cons (pe_f (pv 0) rfl) pa_nil))) pa_nil)))
    (pss_cons (ps_set (i := 3) sc_lead_kept.nd rfl (Or.inl rfl) pe_int)
    (pss_cons (ps_for PassesOwn.never rfl (pi_list (pe_df D_signs_of (hr.mono (by decide)) rfl (pa_cons (pv 0) (pa_cons (pe_slice sl_list (pe_f (pv 1) rfl) po_none (po_some (pe_f (pv 1) rfl))) pa_nil)))) (pg_name (i := 4) sc_lead_kept.nd rfl (Or.inl rfl)) (pss_cons (ps_set (i := 2) sc_lead_kept.nd rfl (Or.inl rfl) (pe_op op_add (pv 2) (pe_ix ix_tup (pv 4) pe_int (fun _ _ => rfl))))
    (pss_cons (ps_if (pt_cmpR op_gt (pv 2) (pe_f (pv 0) rfl) (nomark _)) (pss_one (ps_ret (pv 3))) pss_nil)
    (pss_one (ps_set (i := 3) sc_lead_kept.nd rfl (Or.inl rfl) (pe_op op_add (pv 3) pe_int))))))
    (pss_one (ps_ret (pv 3))))))

theorem sc_rows_alone : FnScope N_rows_alone P_rows_alone (defScope s_rows_alone) := ⟨rfl, rfl, rfl, by decide +kernel, rfl, by decide +kernel, by decide +kernel⟩
theorem d_rows_alone {f : Addr} {cdv : Value} {A : Around} {outer : List Env} {s : Shared} {H : Hp} {E : XK} (T : Txt K mg c) (hr : Room 0 (A.deeper (envOfC "rows_alone" (defScope s_rows_alone) s.heap.objs.size f cdv))) :
    PSs (cxOf CX0 P w K mg base N_rows_alone "rows_alone" (defScope s_rows_alone) f cdv A outer s H E).nox (defBody s_rows_alone) (t_rows_alone K c) :=
  (pss_cons (ps_if (pt_cmpR op_gt (pe_callB call_len_seq (by rfl) T.b_len PySem.boot_len (pa_cons (pv 0) pa_nil)) pe_int (nomark _)) (pss_one (ps_ret pe_int)) pss_nil)
    (pss_one (ps_ret pe_int)))

theorem sc_rows_needed : FnScope N_rows_needed P_rows_needed (defScope s_rows_needed) := ⟨rfl, rfl, rfl, by decide +kernel, rfl, by decide +kernel, by decide +kernel⟩
theorem d_rows_needed {f : Addr} {cdv : Value} {A : Around} {outer : List Env} {s : Shared} {H : Hp} {E : XK} {q_rows_alone : Sp} (T : Txt K mg c) (hr : Room 1 (A.deeper (envOfC "rows_needed" (defScope s_rows_needed) s.heap.objs.size f cdv))) (D_rows_alone : Df P w K mg base "rows_alone" P_rows_alone 1 q_rows_alone) :
    PSs (cxOf CX0 P w K mg base N_rows_needed "rows_needed" (defScope s_rows_needed) f cdv A outer s H E).nox (defBody s_rows_needed) (t_rows_needed K c q_rows_alone) :=
  (pss_cons (ps_if (pt_cmpR op_gt (pv 3) pe_int (nomark _)) (pss_one (ps_ret pe_int)) pss_nil)
    (pss_cons (ps_if (pt_cmpR op_gt (pe_callB call_len_seq (by rfl) T.b_len PySem.boot_len (pa_cons (pe_ix ix_list (pv 1) (pv 2) (fun _ _ => rfl)) pa_nil)) pe_int (nomark _)) (pss_one (ps_ret pe_int)) pss_nil)
    (pss_cons (ps_set (i := 4) sc_rows_needed.nd rfl (Or.inl rfl) (pe_op op_add (pv 2) pe_int))
    (pss_cons (ps_if (PW.pt (pw_and (pt_cmpR op_eq (pe_f (pe_ix ix_list (pv 0) (pv 2) (fun _ _ => rfl)) rfl) pe_int (nomark _)) (pw_and (pt_cmpR op_lt (pv 4) (pe_callB call_len_seq (by rfl) T.b_len PySem.boot_len (pa_cons (pv 0) pa_nil)) (nomark _)) (pw_and1 (pt_cmpR op_ne (pe_f (pe_ix ix_list (pv 0) (pv 4) (fun _ _ => rfl)) rfl) pe_int (nomark _)))))) (pss_one (ps_ret (pe_op op_add pe_int (pe_df D_rows_alone (hr.mono (by decide)) rfl (pa_cons (pe_ix ix_list (pv 1) (pv 4) (fun _ _ => rfl)) pa_nil))))) pss_nil)
    (pss_one (ps_ret pe_int))))))

theorem sc_begins_group : FnScope N_begins_group P_begins_group (defScope s_begins_group) := ⟨rfl, rfl, rfl, by decide +kernel, rfl, by decide +kernel, by decide +kernel⟩
theorem d_begins_group {f : Addr} {cdv : Value} {A : Around} {outer : List Env} {s : Shared} {H : Hp} {E : XK} (T : Txt K mg c) (hr : Room 0 (A.deeper (envOfC "begins_group" (defScope s_begins_group) s.heap.objs.size f cdv))) :
    PSs (cxOf CX0 P w K mg base N_begins_group "begins_group" (defScope s_begins_group) f cdv A outer s H E).nox (defBody s_begins_group) (t_begins_group K c) :=
  (pss_cons (ps_if (PW.pt (pw_or (pt_cmpR op_eq (pv 1) pe_int (nomark _)) (pw_or1 (pt_cmpR op_ne (pe_f (pe_ix ix_list (pv 0) (pv 1) (fun _ _ => rfl)) rfl) pe_int (nomark _))))) (pss_one (ps_ret pe_bl)) pss_nil)
    (pss_one (ps_ret (pe_cmpR op_ne (pe_f (pe_ix ix_list (pv 0) (pv 1) (fun _ _ => rfl)) rfl) (pe_f (pe_ix ix_list (pv 0) (pe_op op_sub (pv 1) pe_int) (fun _ _ => rfl)) rfl) (nomark _)))))

theorem sc_set_line : FnScope N_set_line P_set_line (defScope s_set_line) := ⟨rfl, rfl, rfl, by decide +kernel, rfl, by decide +kernel, by decide +kernel⟩
theorem d_set_line {f : Addr} {cdv : Value} {A : Around} {outer : List Env} {s : Shared} {H : Hp} {E : XK} {q_Setting_put q_Setting_turn_column q_rows_needed q_main_of q_lead_kept : Sp} (T : Txt K mg c) (hr : Room 3 (A.deeper (envOfC "set_line" (defScope s_set_line) s.heap.objs.size f cdv))) (D_Setting_put : Mdf P w K mg base c.st "put" P_Setting_put 1 q_Setting_put) (D_Setting_turn_column : Mdf P w K mg base c.st "turn_column" P_Setting_turn_column 1 q_Setting_turn_column) (D_rows_needed : Df P w K mg base "rows_needed" P_rows_needed 2 q_rows_needed) (D_main_of : Df P w K mg base "main_of" P_main_of 1 q_main_of) (D_lead_kept : Df P w K mg base "lead_kept" P_lead_kept 3 q_lead_kept) :
    PSs (cxOf CX0 P w K mg base N_set_line "set_line" (defScope s_set_line) f cdv A outer s H E).nox (defBody s_set_line) (t_set_line K c q_Setting_put q_Setting_turn_column q_rows_needed q_main_of q_lead_kept) :=
  (pss_cons (ps_if (pt_cmpR op_gt (pe_op op_add (pe_f (pv 5) rfl) (pe_df D_rows_needed (hr.mono (by decide)) rfl (pa_cons (pv 1) (pa_cons (pv 2) (pa_cons (pv 3) (pa_cons (pv 4) pa_nil)))))) (pe_f (pv 0) rfl) (nomark _)) (pss_cons (ps_expr (pe_md0 (pv 5) T.clst D_Setting_turn_column (hr.mono (by decide))))
    (pss_one (ps_if (PW.pt (pw_or (pt_cmpR op_gt (pv 4) pe_int (nomark _)) (pw_or1 (pt_cmpR op_ne (pe_f (pe_ix ix_list (pv 1) (pv 3) (fun _ _ => rfl)) rfl) pe_int (nomark _))))) (pss_cons (ps_set (i := 6) sc_set_line.nd rfl (Or.inl rfl) (pe_df D_main_of (hr.mono (by decide)) rfl (pa_cons (pv 1) (pa_cons (pv 3) pa_nil))))
    (pss_one (ps_expr (pe_md (pv 5) T.clst D_Setting_put (hr.mono (by decide)) (pa_cons (pv 6) (pa_cons pe_int (pa_cons (pe_df D_lead_kept (hr.mono (by decide)) rfl (pa_cons (pv 0) (pa_cons (pe_ix ix_list (pv 1) (pv 6) (fun _ _ => rfl)) pa_nil))) (pa_cons pe_int pa_nil)))))))) pss_nil))) pss_nil)
    (pss_cons (ps_asg (pe_ix ix_list (pe_ix ix_list (pv 2) (pv 3) (fun _ _ => rfl)) (pv 4) (fun _ _ => rfl)) (pg_tup rfl (pgs_cons (pg_name (i := 7) sc_set_line.nd rfl (Or.inl rfl)) (pgs_cons (pg_name (i := 8) sc_set_line.nd rfl (Or.inl rfl)) pgs_nil))))
    (pss_one (ps_expr (pe_md (pv 5) T.clst D_Setting_put (hr.mono (by decide)) (pa_cons (pv 3) (pa_cons (pv 7) (pa_cons (pv 8) (pa_cons pe_int pa_nil)))))))))

theorem sc_set_all : FnScope N_set_all P_set_all (defScope s_set_all) := ⟨rfl, rfl, rfl, by decide +kernel, rfl, by decide +kernel, by decide +kernel⟩
theorem d_set_all {f : Addr} {cdv : Value} {A : Around} {outer : List Env} {s : Shared} {H : Hp} {E : XK} {q_Setting_init q_begins_group q_Setting_leave q_set_line : Sp} (T : Txt K mg c) (hr : Room 4 (A.deeper (envOfC "set_all" (defScope s_set_all) s.heap.objs.size f cdv))) (D_Setting_init : Idf P w K mg base c.st P_Setting_init 1 q_Setting_init) (D_begins_group : Df P w K mg base "begins_group" P_begins_group 1 q_begins_group) (D_Setting_leave : Mdf P w K mg base c.st "leave" P_Setting_leave 1 q_Setting_leave) (D_set_line : Df P w K mg base "set_line" P_set_line 4 q_set_line) :
    PSs (cxOf CX0 P w K mg base N_set_all "set_all" (defScope s_set_all) f cdv A outer s H E).nox (defBody s_set_all) (t_set_all K c q_Setting_init q_begins_group q_Setting_leave q_set_line) :=
  (pss_cons (ps_set (i := 3) sc_set_all.nd rfl (Or.inl rfl) (pe_id0 D_Setting_init (hr.mono (by decide)) rfl T.gst))
    (pss_cons (ps_for PassesOwn.never rfl (pi_range1 rfl T.b_range (pa_cons (pe_callB call_len_seq (by rfl) T.b_len PySem.boot_len (pa_cons (pv 1) pa_nil)) pa_nil)) (pg_name (i := 4) sc_set_all.nd rfl (Or.inl rfl)) (pss_cons (ps_if (pt_val (pe_df D_begins_group (hr.mono (by decide)) rfl (pa_cons (pv 1) (pa_cons (pv 4) pa_nil)))) (pss_one (ps_expr (pe_md (pv 3) T.clst D_Setting_leave (hr.mono (by decide)) (pa_cons (pe_f (pv 0) rfl) pa_nil)))) pss_nil)
    (pss_one (ps_for PassesOwn.never rfl (pi_range1 rfl T.b_range (pa_cons (pe_callB call_len_seq (by rfl) T.b_len PySem.boot_len (pa_cons (pe_ix ix_list (pv 2) (pv 4) (fun _ _ => rfl)) pa_nil)) pa_nil)) (pg_name (i := 5) sc_set_all.nd rfl (Or.inl rfl)) (pss_one (ps_expr (pe_df D_set_line (hr.mono (by decide)) rfl (pa_cons (pv 0) (pa_cons (pv 1) (pa_cons (pv 2) (pa_cons (pv 4) (pa_cons (pv 5) (pa_cons (pv 3) pa_nil)))))))))))))
    (pss_one (ps_ret (pe_f (pv 3) rfl)))))

theorem sc_text_end : FnScope N_text_end P_text_end (defScope s_text_end) := ⟨rfl, rfl, rfl, by decide +kernel, rfl, by decide +kernel, by decide +kernel⟩
theorem d_text_end {f : Addr} {cdv : Value} {A : Around} {outer : List Env} {s : Shared} {H : Hp} {E : XK} (T : Txt K mg c) (hr : Room 0 (A.deeper (envOfC "text_end" (defScope s_text_end) s.heap.objs.size f cdv))) :
    PSs (cxOf CX0 P w K mg base N_text_end "text_end" (defScope s_text_end) f cdv A outer s H E).nox (defBody s_text_end) (t_text_end K c) :=
  (pss_cons (ps_set (i := 1) sc_text_end.nd rfl (Or.inl rfl) pe_int)
    (pss_cons (ps_for PassesOwn.never rfl (pi_enum rfl T.b_enumerate (pa_cons (pv 0) pa_nil)) (pg_tup rfl (pgs_cons (pg_name (i := 2) sc_text_end.nd rfl (Or.inl rfl)) (pgs_cons (pg_name (i := 3) sc_text_end.nd rfl (Or.inl rfl)) pgs_nil))) (pss_one (ps_if (pt_cmpR op_ne (pe_ix ix_tup (pv 3) pe_int (fun _ _ => rfl)) (pe_cst rfl T.kBLANK) (nomark _)) (pss_one (ps_set (i := 1) sc_text_end.nd rfl (Or.inl rfl) (pe_op op_add (pv 2) pe_int))) pss_nil)))
    (pss_one (ps_ret (pv 1)))))

theorem sc_line_begin : FnScope N_line_begin P_line_begin (defScope s_line_begin) := ⟨rfl, rfl, rfl, by decide +kernel, rfl, by decide +kernel, by decide +kernel⟩
theorem d_line_begin {f : Addr} {cdv : Value} {A : Around} {outer : List Env} {s : Shared} {H : Hp} {E : XK} (T : Txt K mg c) (hr : Room 0 (A.deeper (envOfC "line_begin" (defScope s_line_begin) s.heap.objs.size f cdv))) :
    PSs (cxOf CX0 P w K mg base N_line_begin "line_begin" (defScope s_line_begin) f cdv A outer s H E).nox (defBody s_line_begin) (t_line_begin K c) :=
  (pss_cons (ps_for PassesOwn.never rfl (pi_range2 rfl T.b_range (pa_cons (pv 1) (pa_cons (pe_callB call_len_seq (by rfl) T.b_len PySem.boot_len (pa_cons (pv 0) pa_nil)) pa_nil))) (pg_name (i := 2) sc_line_begin.nd rfl (Or.inl rfl)) (pss_one (ps_if (pt_cmpR op_ne (pe_ix ix_tup (pe_ix ix_list (pv 0) (pv 2) (fun _ _ => rfl)) pe_int (fun _ _ => rfl)) (pe_cst rfl T.kBLANK) (nomark _)) (pss_one (ps_ret (pv 2))) pss_nil)))
    (pss_one (ps_ret (pe_callB call_len_seq (by rfl) T.b_len PySem.boot_len (pa_cons (pv 0) pa_nil)))))

theorem sc_is_break : FnScope N_is_break P_is_break (defScope s_is_break) := ⟨rfl, rfl, rfl, by decide +kernel, rfl, by decide +kernel, by decide +kernel⟩
theorem d_is_break {f : Addr} {cdv : Value} {A : Around} {outer : List Env} {s : Shared} {H : Hp} {E : XK} (T : Txt K mg c) (hr : Room 0 (A.deeper (envOfC "is_break" (defScope s_is_break) s.heap.objs.size f cdv))) :
    PSs (cxOf CX0 P w K mg base N_is_break "is_break" (defScope s_is_break) f cdv A outer s H E).nox (defBody s_is_break) (t_is_break K c) :=
  (pss_cons (ps_if (PW.pt (pw_or (pt_cmpR op_eq (pv 2) (pv 1) (nomark _)) (pw_or1 (pt_cmpR op_eq (pe_ix ix_tup (pe_ix ix_list (pv 0) (pe_op op_sub (pv 2) pe_int) (fun _ _ => rfl)) pe_int (fun _ _ => rfl)) (pe_cst rfl T.kBREAK) (nomark _))))) (pss_one (ps_ret pe_bl)) pss_nil)
    (pss_one (ps_ret (pe_and (pe_cmpR op_eq (pe_ix ix_tup (pe_ix ix_list (pv 0) (pv 2) (fun _ _ => rfl)) pe_int (fun _ _ => rfl)) (pe_cst rfl T.kBLANK) (nomark _)) (pe_one (pe_cmpR op_ne (pe_ix ix_tup (pe_ix ix_list (pv 0) (pe_op op_sub (pv 2) pe_int) (fun _ _ => rfl)) pe_int (fun _ _ => rfl)) (pe_cst rfl T.kBLANK) (nomark _)))))))

theorem sc_best_or : FnScope N_best_or P_best_or (defScope s_best_or) := ⟨rfl, rfl, rfl, by decide +kernel, rfl, by decide +kernel, by decide +kernel⟩
theorem d_best_or {f : Addr} {cdv : Value} {A : Around} {outer : List Env} {s : Shared} {H : Hp} {E : XK} (T : Txt K mg c) (hr : Room 0 (A.deeper (envOfC "best_or" (defScope s_best_or) s.heap.objs.size f cdv))) :
    PSs (cxOf CX0 P w K mg base N_best_or "best_or" (defScope s_best_or) f cdv A outer s H E).nox (defBody s_best_or) (t_best_or K c) :=
  (pss_cons (ps_if (pt_cmpR op_isN (pv 0) pe_non (nomark _)) (pss_one (ps_ret (pv 1))) pss_nil)
    (pss_one (ps_ret (pv 0))))

theorem sc_line_end : FnScope N_line_end P_line_end (defScope s_line_end) := ⟨rfl, rfl, rfl, by decide +kernel, rfl, by decide +kernel, by decide +kernel⟩
theorem d_line_end {f : Addr} {cdv : Value} {A : Around} {outer : List Env} {s : Shared} {H : Hp} {E : XK} {q_best_or q_is_break : Sp} (T : Txt K mg c) (hr : Room 1 (A.deeper (envOfC "line_end" (defScope s_line_end) s.heap.objs.size f cdv))) (D_best_or : Df P w K mg base "best_or" P_best_or 1 q_best_or) (D_is_break : Df P w K mg base "is_break" P_is_break 1 q_is_break) :
    PSs (cxOf CX0 P w K mg base N_line_end "line_end" (defScope s_line_end) f cdv A outer s H E).nox (defBody s_line_end) (t_line_end K c q_best_or q_is_break) :=
  (pss_cons (ps_set (i := 4) sc_line_end.nd rfl (Or.inl rfl) pe_int)
    (pss_cons (ps_set (i := 5) sc_line_end.nd rfl (Or.inl rfl) pe_non)
    (pss_cons (ps_set (i := 6) sc_line_end.nd rfl (Or.inl rfl) pe_non)
    (pss_cons (ps_for PassesOwn.never rfl (pi_range2 rfl T.b_range (pa_cons (pe_op op_add (pv 2) pe_int) (pa_cons (pe_op op_add (pv 1) pe_int) pa_nil))) (pg_name (i := 7) sc_line_end.nd rfl (Or.inl rfl)) (pss_cons (ps_set (i := 4) sc_line_end.nd rfl (Or.inl rfl) (pe_op op_add (pv 4) (pe_ix ix_tup (pe_ix ix_list (pv 0) (pe_op op_sub (pv 7) pe_int) (fun _ _ => rfl)) pe_int (fun _ _ => rfl))))
    (pss_cons (ps_if (pt_cmpR op_gt (pv 4) (pv 3) (nomark _)) (pss_one (ps_ret (pe_df D_best_or (hr.mono (by decide)) rfl (pa_cons (pv 6) (pa_cons (pv 5) pa_nil))))) pss_nil)
    (pss_cons (ps_set (i := 5) sc_line_end.nd rfl (Or.inl rfl) (pv 7))
    (pss_one (ps_if (pt_val (pe_df D_is_break (hr.mono (by decide)) rfl (pa_cons (pv 0) (pa_cons (pv 1) (pa_cons (pv 7) pa_nil))))) (pss_one (ps_set (i := 6) sc_line_end.nd rfl (Or.inl rfl) (pv 7))) pss_nil))))))
    (pss_one (ps_ret (pe_df D_best_or (hr.mono (by decide)) rfl (pa_cons (pv 6) (pa_cons (pv 5) pa_nil)))))))))

theorem sc_text_lines : FnScope N_text_lines P_text_lines (defScope s_text_lines) := ⟨rfl, rfl, rfl, by decide +kernel, rfl, by decide +kernel, by decide +kernel⟩
theorem d_text_lines {f : Addr} {cdv : Value} {A : Around} {outer : List Env} {s : Shared} {H : Hp} {E : XK} {q_text_end q_line_begin q_line_end q_room_of : Sp} (T : Txt K mg c) (hr : Room 2 (A.deeper (envOfC "text_lines" (defScope s_text_lines) s.heap.objs.size f cdv))) (D_text_end : Df P w K mg base "text_end" P_text_end 1 q_text_end) (D_line_begin : Df P w K mg base "line_begin" P_line_begin 1 q_line_begin) (D_line_end : Df P w K mg base "line_end" P_line_end 2 q_line_end) (D_room_of : Df P w K mg base "room_of" P_room_of 1 q_room_of) :
    PSs (cxOf CX0 P w K mg base N_text_lines "text_lines" (defScope s_text_lines) f cdv A outer s H E).nox (defBody s_text_lines) (t_text_lines K c q_text_end q_line_begin q_line_end q_room_of) :=
  (pss_cons (ps_set (i := 3) sc_text_lines.nd rfl (Or.inl rfl) (pe_lst pa_nil))
    (pss_cons (ps_set (i := 4) sc_text_lines.nd rfl (Or.inl rfl) (pe_df D_text_end (hr.mono (by decide)) rfl (pa_cons (pv 2) pa_nil)))
    (pss_cons (ps_set (i := 5) sc_text_lines.nd rfl (Or.inl rfl) (pe_df D_line_begin (hr.mono (by decide)) rfl (pa_cons (pv 2) (pa_cons pe_int pa_nil))))
    (pss_cons (ps_while PassesOwn.never (pt_cmpR op_lt (pv 5) (pv 4) (nomark _)) (pss_cons (ps_set (i := 6) sc_text_lines.nd rfl (Or.inl rfl) (pe_df D_line_end (hr.mono (by decide)) rfl (pa_cons (pv 2) (pa_cons (pv 4) (pa_cons (pv 5) (pa_cons (pe_df D_room_of (hr.mono (by decide)) rfl (pa_cons (pv 0) (pa_cons (pv 1) (pa_cons (pe_cmpR (op_eqD hr.units) (pv 3) (pe_lst pa_nil) (nomark _)) pa_nil)))) pa_nil))))))
    (pss_cons (ps_if (pt_cmpR op_isN (pv 6) pe_non (nomark _)) (pss_one (ps_ret pe_non)) pss_nil)
    (pss_cons (ps_expr (pe_bm PySem.F.plainAttrs_list PySem.F.slot_list_append PySem.F.type_list_append mt_append (pv 3) (pa_cons (pe_tup (pa_cons (pv 5) (pa_cons (pv 6) pa_nil))) pa_nil)))
    (pss_one (ps_set (i := 5) sc_text_lines.nd rfl (Or.inl rfl) (pe_df D_line_begin (hr.mono (by decide)) rfl (pa_cons (pv 2) (pa_cons (pv 6) pa_nil)))))))))
    (pss_one (ps_ret (pv 3)))))))

theorem sc_Paragraph_init : FnScope N_Paragraph_init P_Paragraph_init (defScope s_Paragraph_init) := ⟨rfl, rfl, rfl, by decide +kernel, rfl, by decide +kernel, by decide +kernel⟩
theorem d_Paragraph_init {f : Addr} {cdv : Value} {A : Around} {outer : List Env} {s : Shared} {H : Hp} {E : XK} (T : Txt K mg c) (hr : Room 0 (A.deeper (envOfC "Paragraph.__init__" (defScope s_Paragraph_init) s.heap.objs.size f cdv))) :
    PSs (cxOf CX0 P w K mg base N_Paragraph_init "Paragraph.__init__" (defScope s_Paragraph_init) f cdv A outer s H E).nox (defBody s_Paragraph_init) (t_Paragraph_init K c) :=
  (pss_cons (ps_fld (pv 0) (pe_ix ix_list (pv 1) pe_int (fun _ _ => rfl)) rfl)
    (pss_cons (ps_fld (pv 0) (pe_ix ix_list (pv 1) pe_int (fun _ _ => rfl)) rfl)
    (pss_cons (ps_fld (pv 0) (pe_ix ix_list (pv 1) pe_int (fun _ _ => rfl)) rfl)
    (pss_one (ps_fld (pv 0) (pe_callTy call_list_of (by rfl) T.b_list (by decide +kernel) (pa_cons (pe_slice sl_list (pv 1) (po_some pe_int) po_none) pa_nil)) rfl)))))

theorem sc_is_right : FnScope N_is_right P_is_right (defScope s_is_right) := ⟨rfl, rfl, rfl, by decide +kernel, rfl, by decide +kernel, by decide +kernel⟩
theorem d_is_right {f : Addr} {cdv : Value} {A : Around} {outer : List Env} {s : Shared} {H : Hp} {E : XK} (T : Txt K mg c) (hr : Room 0 (A.deeper (envOfC "is_right" (defScope s_is_right) s.heap.objs.size f cdv))) :
    PSs (cxOf CX0 P w K mg base N_is_right "is_right" (defScope s_is_right) f cdv A outer s H E).nox (defBody s_is_right) (t_is_right K c) :=
  (pss_cons (ps_if (PW.pt (pw_or (pt_cmpR op_lt (pe_f (pv 0) rfl) pe_int (nomark _)) (pw_or (pt_cmpR op_gt (pe_f (pv 0) rfl) (pe_cst rfl T.kMOST_DEPTH) (nomark _)) (pw_or1 (pt_cmpR op_gt (pe_f (pv 0) rfl) (pe_op op_add (pv 1) pe_int) (nomark _)))))) (pss_one (ps_ret pe_bl)) pss_nil)
    (pss_cons (ps_if (PW.pt (pw_or (pt_cmpR op_lt (pe_callB call_len_seq (by rfl) T.b_len PySem.boot_len (pa_cons (pe_f (pv 0) rfl) pa_nil)) pe_int (nomark _)) (pw_or1 (pt_cmpR op_gt (pe_callB call_len_seq (by rfl) T.b_len PySem.boot_len (pa_cons (pe_f (pv 0) rfl) pa_nil)) (pe_cst rfl T.kMOST_TEXT) (nomark _))))) (pss_one (ps_ret pe_bl)) pss_nil)
    (pss_one (ps_ret (pe_chain op_le op_le pe_int (pe_f (pv 0) rfl) (pe_callB call_len_seq (by rfl) T.b_len PySem.boot_len (pa_cons (pe_f (pv 0) rfl) pa_nil)))))))

theorem sc_first_wrong : FnScope N_first_wrong P_first_wrong (defScope s_first_wrong) := ⟨rfl, rfl, rfl, by decide +kernel, rfl, by decide +kernel, by decide +kernel⟩
theorem d_first_wrong {f : Addr} {cdv : Value} {A : Around} {outer : List Env} {s : Shared} {H : Hp} {E : XK} {q_is_right : Sp} (T : Txt K mg c) (hr : Room 1 (A.deeper (envOfC "first_wrong" (defScope s_first_wrong) s.heap.objs.size f cdv))) (D_is_right : Df P w K mg base "is_right" P_is_right 1 q_is_right) :
    PSs (cxOf CX0 P w K mg base N_first_wrong "first_wrong" (defScope s_first_wrong) f cdv A outer s H E).nox (defBody s_first_wrong) (t_first_wrong K c q_is_right) :=
  (pss_cons (ps_set (i := 1) sc_first_wrong.nd rfl (Or.inl rfl) pe_int)
    (pss_cons (ps_for PassesOwn.never rfl (pi_enum rfl T.b_enumerate (pa_cons (pv 0) pa_nil)) (pg_tup rfl (pgs_cons (pg_name (i := 2) sc_first_wrong.nd rfl (Or.inl rfl)) (pgs_cons (pg_name (i := 3) sc_first_wrong.nd rfl (Or.inl rfl)) pgs_nil))) (pss_cons (ps_if (pt_not (pt_val (pe_df D_is_right (hr.mono (by decide)) rfl (pa_cons (pv 3) (pa_cons (pv 1) pa_nil))))) (pss_one (ps_ret (pv 2))) pss_nil)
    (pss_one (ps_set (i := 1) sc_first_wrong.nd rfl (Or.inl rfl) (pe_f (pv 3) rfl)))))
    (pss_one (ps_ret pe_non))))

theorem sc_are_blanks : FnScope N_are_blanks P_are_blanks (defScope s_are_blanks) := ⟨rfl, rfl, rfl, by decide +kernel, rfl, by decide +kernel, by decide +kernel⟩
theorem d_are_blanks {f : Addr} {cdv : Value} {A : Around} {outer : List Env} {s : Shared} {H : Hp} {E : XK} (T : Txt K mg c) (hr : Room 0 (A.deeper (envOfC "are_blanks" (defScope s_are_blanks) s.heap.objs.size f cdv))) :
    PSs (cxOf CX0 P w K mg base N_are_blanks "are_blanks" (defScope s_are_blanks) f cdv A outer s H E).nox (defBody s_are_blanks) (t_are_blanks K c) :=
  (pss_cons (ps_for PassesOwn.never rfl (pi_list (pv 0)) (pg_name (i := 1) sc_are_blanks.nd rfl (Or.inl rfl)) (pss_one (ps_if (pt_cmpR op_ne (pe_ix ix_tup (pv 1) pe_int (fun _ _ => rfl)) (pe_cst rfl T.kBLANK) (nomark _)) (pss_one (ps_ret pe_bl)) pss_nil)))
    (pss_one (ps_ret pe_bl)))

theorem sc_first_blank : FnScope N_first_blank P_first_blank (defScope s_first_blank) := ⟨rfl, rfl, rfl, by decide +kernel, rfl, by decide +kernel, by decide +kernel⟩
theorem d_first_blank {f : Addr} {cdv : Value} {A : Around} {outer : List Env} {s : Shared} {H : Hp} {E : XK} {q_are_blanks q_signs_of : Sp} (T : Txt K mg c) (hr : Room 2 (A.deeper (envOfC "first_blank" (defScope s_first_blank) s.heap.objs.size f cdv))) (D_are_blanks : Df P w K mg base "are_blanks" P_are_blanks 1 q_are_blanks) (D_signs_of : Df P w K mg base "signs_of" P_signs_of 2 q_signs_of) :
    PSs (cxOf CX0 P w K mg base N_first_blank "first_blank" (defScope s_first_blank) f cdv A outer s H E).nox (defBody s_first_blank) (t_first_blank K c q_are_blanks q_signs_of) :=
  (pss_cons (ps_for PassesOwn.never rfl (pi_enum rfl T.b_enumerate (pa_cons (pv 1) pa_nil)) (pg_tup rfl (pgs_cons (pg_name (i := 2) sc_first_blank.nd rfl (Or.inl rfl)) (pgs_cons (pg_name (i := 3) sc_first_blank.nd rfl (Or.inl rfl)) pgs_nil))) (pss_one (ps_if (pt_val (pe_df D_are_blanks (hr.mono (by decide)) rfl (pa_cons (pe_df D_signs_of (hr.mono (by decide)) rfl (pa_cons (pv 0) (pa_cons (pe_f (pv 3) rfl) pa_nil))) pa_nil))) (pss_one (ps_ret (pv 2))) pss_nil)))
    (pss_one (ps_ret pe_non)))

theorem sc_all_lines : FnScope N_all_lines P_all_lines (defScope s_all_lines) := ⟨rfl, rfl, rfl, by decide +kernel, rfl, by decide +kernel, by decide +kernel⟩
theorem d_all_lines {f : Addr} {cdv : Value} {A : Around} {outer : List Env} {s : Shared} {H : Hp} {E : XK} {q_text_lines q_signs_of : Sp} (T : Txt K mg c) (hr : Room 3 (A.deeper (envOfC "all_lines" (defScope s_all_lines) s.heap.objs.size f cdv))) (D_text_lines : Df P w K mg base "text_lines" P_text_lines 3 q_text_lines) (D_signs_of : Df P w K mg base "signs_of" P_signs_of 2 q_signs_of) :
    PSs (cxOf CX0 P w K mg base N_all_lines "all_lines" (defScope s_all_lines) f cdv A outer s H E).nox (defBody s_all_lines) (t_all_lines K c q_text_lines q_signs_of) :=
  (pss_cons (ps_set (i := 2) sc_all_lines.nd rfl (Or.inl rfl) (pe_lst pa_nil))
    (pss_cons (ps_for PassesOwn.never rfl (pi_list (pv 1)) (pg_name (i := 3) sc_all_lines.nd rfl (Or.inl rfl)) (pss_one (ps_expr (pe_bm PySem.F.plainAttrs_list PySem.F.slot_list_append PySem.F.type_list_append mt_append (pv 2) (pa_cons (pe_df D_text_lines (hr.mono (by decide)) rfl (pa_cons (pv 0) (pa_cons (pe_f (pv 3) rfl) (pa_cons (pe_df D_signs_of (hr.mono (by decide)) rfl (pa_cons (pv 0) (pa_cons (pe_f (pv 3) rfl) pa_nil))) pa_nil)))) pa_nil)))))
    (pss_one (ps_ret (pv 2)))))

theorem sc_first_none : FnScope N_first_none P_first_none (defScope s_first_none) := ⟨rfl, rfl, rfl, by decide +kernel, rfl, by decide +kernel, by decide +kernel⟩
theorem d_first_none {f : Addr} {cdv : Value} {A : Around} {outer : List Env} {s : Shared} {H : Hp} {E : XK} (T : Txt K mg c) (hr : Room 0 (A.deeper (envOfC "first_none" (defScope s_first_none) s.heap.objs.size f cdv))) :
    PSs (cxOf CX0 P w K mg base N_first_none "first_none" (defScope s_first_none) f cdv A outer s H E).nox (defBody s_first_none) (t_first_none K c) :=
  (pss_cons (ps_for PassesOwn.never rfl (pi_enum rfl T.b_enumerate (pa_cons (pv 0) pa_nil)) (pg_tup rfl (pgs_cons (pg_name (i := 1) sc_first_none.nd rfl (Or.inl rfl)) (pgs_cons (pg_name (i := 2) sc_first_none.nd rfl (Or.inl rfl)) pgs_nil))) (pss_one (ps_if (pt_cmpR op_isN (pv 2) pe_non (nomark _)) (pss_one (ps_ret (pv 1))) pss_nil)))
    (pss_one (ps_ret pe_non)))

theorem sc_character_count : FnScope N_character_count P_character_count (defScope s_character_count) := ⟨rfl, rfl, rfl, by decide +kernel, rfl, by decide +kernel, by decide +kernel⟩
theorem d_character_count {f : Addr} {cdv : Value} {A : Around} {outer : List Env} {s : Shared} {H : Hp} {E : XK} (T : Txt K mg c) (hr : Room 0 (A.deeper (envOfC "character_count" (defScope s_character_count) s.heap.objs.size f cdv))) :
    PSs (cxOf CX0 P w K mg base N_character_count "character_count" (defScope s_character_count) f cdv A outer s H E).nox (defBody s_character_count) (t_character_count K c) :=
  (pss_one (ps_ret (pe_callB (cr_sum rfl) (by rfl) T.b_sum (by decide +kernel) (pa_cons (pe_lc (own := [("paragraph", 1)]) (g := (gName 1)) (tt := tYes) rfl sc_character_count.nd (pi_list (pv 0)) (blkOk_by (own := [("paragraph", 1)]) (N := N_character_count) (sc := defScope s_character_count) (by decide +kernel)) (fun _ _ _ _ _ => (pg_name (i := 1) sc_character_count.nd rfl (Or.inl rfl))) (fun _ _ _ _ _ => pts_nil) (fun _ _ _ _ _ => (pe_callB call_len_seq (by rfl) T.b_len PySem.boot_len (pa_cons (pe_f (pv 1) rfl) pa_nil)))) pa_nil))))

theorem sc_Setter_init : FnScope N_Setter_init P_Setter_init (defScope s_Setter_init) := ⟨rfl, rfl, rfl, by decide +kernel, rfl, by decide +kernel, by decide +kernel⟩
theorem d_Setter_init {f : Addr} {cdv : Value} {A : Around} {outer : List Env} {s : Shared} {H : Hp} {E : XK} {q_first_sheet : Sp} (T : Txt K mg c) (hr : Room 3 (A.deeper (envOfC "Setter.__init__" (defScope s_Setter_init) s.heap.objs.size f cdv))) (D_first_sheet : Df P w K mg base "first_sheet" P_first_sheet 3 q_first_sheet) :
    PSs (cxOf CX0 P w K mg base N_Setter_init "Setter.__init__" (defScope s_Setter_init) f cdv A outer s H E).nox (defBody s_Setter_init) (t_Setter_init K c q_first_sheet) :=
  (pss_cons (ps_fld (pv 0) (pe_df0 D_first_sheet (hr.mono (by decide)) rfl) rfl)
    (pss_cons (ps_fld (pv 0) (pe_lst pa_nil) rfl)
    (pss_one (ps_fld (pv 0) (pe_lst pa_nil) rfl))))

theorem sc_Setter_take_sheet : FnScope N_Setter_take_sheet P_Setter_take_sheet (defScope s_Setter_take_sheet) := ⟨rfl, rfl, rfl, by decide +kernel, rfl, by decide +kernel, by decide +kernel⟩
theorem d_Setter_take_sheet {f : Addr} {cdv : Value} {A : Around} {outer : List Env} {s : Shared} {H : Hp} {E : XK} {q_Sheet_init q_sheet_refusal : Sp} (T : Txt K mg c) (hr : Room 3 (A.deeper (envOfC "Setter.take_sheet" (defScope s_Setter_take_sheet) s.heap.objs.size f cdv))) (D_Sheet_init : Idf P w K mg base c.sh P_Sheet_init 1 q_Sheet_init) (D_sheet_refusal : Df P w K mg base "sheet_refusal" P_sheet_refusal 3 q_sheet_refusal) :
    PSs (cxOf CX0 P w K mg base N_Setter_take_sheet "Setter.take_sheet" (defScope s_Setter_take_sheet) f cdv A outer s H E).nox (defBody s_Setter_take_sheet) (t_Setter_take_sheet K c q_Sheet_init q_sheet_refusal) :=
  (pss_cons (ps_set (i := 3) sc_Setter_take_sheet.nd rfl (Or.inl rfl) (pe_id D_Sheet_init (hr.mono (by decide)) rfl T.gsh (pa_cons (pv 1) (pa_cons (pe_ix ix_list (pv 2) pe_int (fun _ _ => rfl)) (pa_cons (pe_ix ix_list (pv 2) pe_int (fun _ _ => rfl)) pa_nil)))))
    (pss_cons (ps_set (i := 4) sc_Setter_take_sheet.nd rfl (Or.inl rfl) (pe_df D_sheet_refusal (hr.mono (by decide)) rfl (pa_cons (pv 3) pa_nil)))
    (pss_cons (ps_if (pt_cmpR op_gt (pv 4) pe_int (nomark _)) (pss_one (ps_ret (pe_lst (pa_cons (pe_un un_neg (pv 4)) pa_nil)))) pss_nil)
    (pss_cons (ps_fld (pv 0) (pv 3) rfl)
    (pss_cons (ps_fld (pv 0) (pe_lst pa_nil) rfl)
    (pss_cons (ps_fld (pv 0) (pe_lst pa_nil) rfl)
    (pss_one (ps_ret (pe_lst (pa_cons pe_int (pa_cons pe_int pa_nil)))))))))))

theorem sc_Setter_take_paragraphs : FnScope N_Setter_take_paragraphs P_Setter_take_paragraphs (defScope s_Setter_take_paragraphs) := ⟨rfl, rfl, rfl, by decide +kernel, rfl, by decide +kernel, by decide +kernel⟩
theorem d_Setter_take_paragraphs {f : Addr} {cdv : Value} {A : Around} {outer : List Env} {s : Shared} {H : Hp} {E : XK} {q_first_wrong q_first_blank q_all_lines q_first_none q_set_all q_Paragraph_init q_character_count : Sp} (T : Txt K mg c) (hr : Room 5 (A.deeper (envOfC "Setter.take_paragraphs" (defScope s_Setter_take_paragraphs) s.heap.objs.size f cdv))) (D_first_wrong : Df P w K mg base "first_wrong" P_first_wrong 2 q_first_wrong) (D_first_blank : Df P w K mg base "first_blank" P_first_blank 3 q_first_blank) (D_all_lines : Df P w K mg base "all_lines" P_all_lines 4 q_all_lines) (D_first_none : Df P w K mg base "first_none" P_first_none 1 q_first_none) (D_set_all : Df P w K mg base "set_all" P_set_all 5 q_set_all) (D_Paragraph_init : Idf P w K mg base c.pa P_Paragraph_init 1 q_Paragraph_init) (D_character_count : Df P w K mg base "character_count" P_character_count 1 q_character_count) :
    PSs (cxOf CX0 P w K mg base N_Setter_take_paragraphs "Setter.take_paragraphs" (defScope s_Setter_take_paragraphs) f cdv A outer s H E).nox (defBody s_Setter_take_paragraphs) (t_Setter_take_paragraphs K c q_first_wrong q_first_blank q_all_lines q_first_none q_set_all q_Paragraph_init q_character_count) :=
  (pss_cons (ps_setLc (i := 3) (own := [("row", 7)]) (g := (gName 7)) (tt := tYes) rfl sc_Setter_take_paragraphs.nd rfl rfl (sw_true rfl rfl rfl (by decide +kernel)) (pi_list (pv 2)) (blkOk_by (own := [("row", 7)]) (N := N_Setter_take_paragraphs) (sc := defScope s_Setter_take_paragraphs) (by decide +kernel)) (fun _ _ _ _ _ => (pg_name (i := 7) sc_Setter_take_paragraphs.nd rfl (Or.inl rfl))) (fun _ _ _ _ _ => pts_nil) (fun _ _ _ _ _ => (pe_id D_Paragraph_init (hr.mono (by decide)) rfl T.gpa (pa_cons (pv 7) pa_nil))))
    (pss_cons (ps_set (i := 4) sc_Setter_take_paragraphs.nd rfl (Or.inl rfl) (pe_df D_first_wrong (hr.mono (by decide)) rfl (pa_cons (pv 3) pa_nil)))
    (pss_cons (ps_if (pt_cmpR op_notN (pv 4) pe_non (nomark _)) (pss_one (ps_ret (pe_lst (pa_cons (pe_un un_neg pe_int) (pa_cons (pv 4) pa_nil))))) pss_nil)
    (pss_cons (ps_if (pt_cmpR op_gt (pe_df D_character_count (hr.mono (by decide)) rfl (pa_cons (pv 3) pa_nil)) (pe_cst rfl T.kMOST_CHARACTERS) (nomark _)) (pss_one (ps_ret (pe_lst (pa_cons (pe_un un_neg pe_int) pa_nil)))) pss_nil)
    (pss_cons (ps_set (i := 4) sc_Setter_take_paragraphs.nd rfl (Or.inl rfl) (pe_df D_first_blank (hr.mono (by decide)) rfl (pa_cons (pe_f (pv 0) rfl) (pa_cons (pv 3) pa_nil))))
    (pss_cons (ps_if (pt_cmpR op_notN (pv 4) pe_non (nomark _)) (pss_one (ps_ret (pe_lst (pa_cons (pe_un un_neg pe_int) (pa_cons (pv 4) pa_nil))))) pss_nil)
    (pss_cons (ps_set (i := 5) sc_Setter_take_paragraphs.nd rfl (Or.inl rfl) (pe_df D_all_lines (hr.mono (by decide)) rfl (pa_cons (pe_f (pv 0) rfl) (pa_cons (pv 3) pa_nil))))
    (pss_cons (ps_set (i := 4) sc_Setter_take_paragraphs.nd rfl (Or.inl rfl) (pe_df D_first_none (hr.mono (by decide)) rfl (pa_cons (pv 5) pa_nil)))
    (pss_cons (ps_if (pt_cmpR op_notN (pv 4) pe_non (nomark _)) (pss_one (ps_ret (pe_lst (pa_cons (pe_un un_neg pe_int) (pa_cons (pv 4) pa_nil))))) pss_nil)
    (pss_cons (ps_set (i := 6) sc_Setter_take_paragraphs.nd rfl (Or.inl rfl) (pe_df D_set_all (hr.mono (by decide)) rfl (pa_cons (pe_f (pv 0) rfl) (pa_cons (pv 3) (pa_cons (pv 5) pa_nil)))))
    (pss_cons (ps_if (pt_cmpR op_gt (pe_callB call_len_seq (by rfl) T.b_len PySem.boot_len (pa_cons (pv 6) pa_nil)) (pe_cst rfl T.kMOST_LINES) (nomark _)) (pss_one (ps_ret (pe_lst (pa_cons (pe_un un_neg pe_int) pa_nil)))) pss_nil)
    (pss_cons (ps_fld (pv 0) (pv 3) rfl)
    (pss_cons (ps_fld (pv 0) (pv 6) rfl)
    (pss_one (ps_ret (pe_lst (pa_cons pe_int (pa_cons (pe_callB call_len_seq (by rfl) T.b_len PySem.boot_len (pa_cons (pv 6) pa_nil)) pa_nil))))))))))))))))))

theorem sc_Setter_tell_line : FnScope N_Setter_tell_line P_Setter_tell_line (defScope s_Setter_tell_line) := ⟨rfl, rfl, rfl, by decide +kernel, rfl, by decide +kernel, by decide +kernel⟩
theorem d_Setter_tell_line {f : Addr} {cdv : Value} {A : Around} {outer : List Env} {s : Shared} {H : Hp} {E : XK} (T : Txt K mg c) (hr : Room 0 (A.deeper (envOfC "Setter.tell_line" (defScope s_Setter_tell_line) s.heap.objs.size f cdv))) :
    PSs (cxOf CX0 P w K mg base N_Setter_tell_line "Setter.tell_line" (defScope s_Setter_tell_line) f cdv A outer s H E).nox (defBody s_Setter_tell_line) (t_Setter_tell_line K c) :=
  (pss_cons (ps_if (pt_cmpR op_ge (pe_ix ix_list (pv 1) pe_int (fun _ _ => rfl)) (pe_callB call_len_seq (by rfl) T.b_len PySem.boot_len (pa_cons (pe_f (pv 0) rfl) pa_nil)) (nomark _)) (pss_one (ps_ret (pe_lst (pa_cons (pe_un un_neg pe_int) pa_nil)))) pss_nil)
    (pss_cons (ps_set (i := 3) sc_Setter_tell_line.nd rfl (Or.inl rfl) (pe_ix ix_list (pe_f (pv 0) rfl) (pe_ix ix_list (pv 1) pe_int (fun _ _ => rfl)) (fun _ _ => rfl)))
    (pss_cons (ps_set (i := 4) sc_Setter_tell_line.nd rfl (Or.inl rfl) (pe_slice sl_list (pe_f (pe_ix ix_list (pe_f (pv 0) rfl) (pe_ix ix_tup (pv 3) pe_int (fun _ _ => rfl)) (fun _ _ => rfl)) rfl) (po_some (pe_ix ix_tup (pv 3) pe_int (fun _ _ => rfl))) (po_some (pe_ix ix_tup (pv 3) pe_int (fun _ _ => rfl)))))
    (pss_cons (ps_if (pt_cmpR op_eq (pe_ix ix_tup (pv 3) pe_int (fun _ _ => rfl)) pe_int (nomark _)) (pss_one (ps_set (i := 4) sc_Setter_tell_line.nd rfl (Or.inl rfl) (pe_op op_cat (pv 4) (pe_f (pe_f (pv 0) rfl) rfl)))) pss_nil)
    (pss_one (ps_ret (pe_op op_cat (pe_op op_cat (pe_lst (pa_cons pe_int pa_nil)) (pe_callTy call_list_of (by rfl) T.b_list (by decide +kernel) (pa_cons (pv 3) pa_nil))) (pv 4))))))))

theorem sc_Setter_tell_where : FnScope N_Setter_tell_where P_Setter_tell_where (defScope s_Setter_tell_where) := ⟨rfl, rfl, rfl, by decide +kernel, rfl, by decide +kernel, by decide +kernel⟩
theorem d_Setter_tell_where {f : Addr} {cdv : Value} {A : Around} {outer : List Env} {s : Shared} {H : Hp} {E : XK} (T : Txt K mg c) (hr : Room 0 (A.deeper (envOfC "Setter.tell_where" (defScope s_Setter_tell_where) s.heap.objs.size f cdv))) :
    PSs (cxOf CX0 P w K mg base N_Setter_tell_where "Setter.tell_where" (defScope s_Setter_tell_where) f cdv A outer s H E).nox (defBody s_Setter_tell_where) (t_Setter_tell_where K c) :=
  (pss_cons (ps_asg (pv 1) (pg_unl rfl (pgs_cons (pg_name (i := 3) sc_Setter_tell_where.nd rfl (Or.inl rfl)) (pgs_cons (pg_name (i := 4) sc_Setter_tell_where.nd rfl (Or.inl rfl)) pgs_nil))))
    (pss_cons (ps_for PassesOwn.never rfl (pi_enum rfl T.b_enumerate (pa_cons (pe_f (pv 0) rfl) pa_nil)) (pg_tup rfl (pgs_cons (pg_name (i := 5) sc_Setter_tell_where.nd rfl (Or.inl rfl)) (pgs_cons (pg_name (i := 6) sc_Setter_tell_where.nd rfl (Or.inl rfl)) pgs_nil))) (pss_one (ps_if (PW.pt (pw_and (pt_cmpR op_eq (pe_ix ix_tup (pv 6) pe_int (fun _ _ => rfl)) pe_int (nomark _)) (pw_and (pt_cmpR op_eq (pe_ix ix_tup (pv 6) pe_int (fun _ _ => rfl)) (pv 3) (nomark _)) (pw_and1 (pt_chain op_le op_lt (pe_ix ix_tup (pv 6) pe_int (fun _ _ => rfl)) (pv 4) (pe_ix ix_tup (pv 6) pe_int (fun _ _ => rfl))))))) (pss_one (ps_ret (pe_lst (pa_cons pe_int (pa_cons (pv 5) pa_nil))))) pss_nil)))
    (pss_one (ps_ret (pe_lst (pa_cons (pe_un un_neg pe_int) pa_nil))))))

theorem sc_Setter_tell_columns : FnScope N_Setter_tell_columns P_Setter_tell_columns (defScope s_Setter_tell_columns) := ⟨rfl, rfl, rfl, by decide +kernel, rfl, by decide +kernel, by decide +kernel⟩
theorem d_Setter_tell_columns {f : Addr} {cdv : Value} {A : Around} {outer : List Env} {s : Shared} {H : Hp} {E : XK} (T : Txt K mg c) (hr : Room 0 (A.deeper (envOfC "Setter.tell_columns" (defScope s_Setter_tell_columns) s.heap.objs.size f cdv))) :
    PSs (cxOf CX0 P w K mg base N_Setter_tell_columns "Setter.tell_columns" (defScope s_Setter_tell_columns) f cdv A outer s H E).nox (defBody s_Setter_tell_columns) (t_Setter_tell_columns K c) :=
  (pss_cons (ps_if (pt_cmpR op_eq (pe_callB call_len_seq (by rfl) T.b_len PySem.boot_len (pa_cons (pe_f (pv 0) rfl) pa_nil)) pe_int (nomark _)) (pss_one (ps_ret (pe_lst (pa_cons pe_int (pa_cons pe_int pa_nil))))) pss_nil)
    (pss_one (ps_ret (pe_lst (pa_cons pe_int (pa_cons (pe_op op_add (pe_ix ix_tup (pe_ix ix_list (pe_f (pv 0) rfl) (pe_op op_sub (pe_callB call_len_seq (by rfl) T.b_len PySem.boot_len (pa_cons (pe_f (pv 0) rfl) pa_nil)) pe_int) (fun _ _ => rfl)) pe_int (fun _ _ => rfl)) pe_int) pa_nil))))))

theorem sc_answer : FnScope N_answer P_answer (defScope s_answer) := ⟨rfl, rfl, rfl, by decide +kernel, rfl, by decide +kernel, by decide +kernel⟩
theorem d_answer {f : Addr} {cdv : Value} {A : Around} {outer : List Env} {s : Shared} {H : Hp} {E : XK} {q_Setter_tell_columns q_Setter_take_sheet q_Setter_take_paragraphs q_Setter_tell_line q_Setter_tell_where : Sp} (T : Txt K mg c) (hr : Room 6 (A.deeper (envOfC "answer" (defScope s_answer) s.heap.objs.size f cdv))) (D_Setter_tell_columns : Mdf P w K mg base c.se "tell_columns" P_Setter_tell_columns 1 q_Setter_tell_columns) (D_Setter_take_sheet : Mdf P w K mg base c.se "take_sheet" P_Setter_take_sheet 4 q_Setter_take_sheet) (D_Setter_take_paragraphs : Mdf P w K mg base c.se "take_paragraphs" P_Setter_take_paragraphs 6 q_Setter_take_paragraphs) (D_Setter_tell_line : Mdf P w K mg base c.se "tell_line" P_Setter_tell_line 1 q_Setter_tell_line) (D_Setter_tell_where : Mdf P w K mg base c.se "tell_where" P_Setter_tell_where 1 q_Setter_tell_where) :
    PSs (cxOf CX0 P w K mg base N_answer "answer" (defScope s_answer) f cdv A outer s H E).nox (defBody s_answer) (t_answer K c q_Setter_tell_columns q_Setter_take_sheet q_Setter_take_paragraphs q_Setter_tell_line q_Setter_tell_where) :=
  (pss_cons (ps_if (pt_cmpR op_eq (pv 1) pe_int (nomark _)) (pss_one (ps_ret (pe_md (pv 0) T.clse D_Setter_take_sheet (hr.mono (by decide)) (pa_cons (pv 2) (pa_cons (pv 3) pa_nil))))) pss_nil)
    (pss_cons (ps_if (pt_cmpR op_eq (pv 1) pe_int (nomark _)) (pss_one (ps_ret (pe_md (pv 0) T.clse D_Setter_take_paragraphs (hr.mono (by decide)) (pa_cons (pv 2) (pa_cons (pv 3) pa_nil))))) pss_nil)
    (pss_cons (ps_if (pt_cmpR op_eq (pv 1) pe_int (nomark _)) (pss_one (ps_ret (pe_md (pv 0) T.clse D_Setter_tell_line (hr.mono (by decide)) (pa_cons (pv 2) (pa_cons (pv 3) pa_nil))))) pss_nil)
    (pss_cons (ps_if (pt_cmpR op_eq (pv 1) pe_int (nomark _)) (pss_one (ps_ret (pe_md (pv 0) T.clse D_Setter_tell_where (hr.mono (by decide)) (pa_cons (pv 2) (pa_cons (pv 3) pa_nil))))) pss_nil)
    (pss_one (ps_ret (pe_md (pv 0) T.clse D_Setter_tell_columns (hr.mono (by decide)) (pa_cons (pv 2) (pa_cons (pv 3) pa_nil)))))))))

theorem sc_lists_at : FnScope N_lists_at P_lists_at (defScope s_lists_at) := ⟨rfl, rfl, rfl, by decide +kernel, rfl, by decide +kernel, by decide +kernel⟩
theorem d_lists_at {f : Addr} {cdv : Value} {A : Around} {outer : List Env} {s : Shared} {H : Hp} {E : XK} (T : Txt K mg c) (hr : Room 0 (A.deeper (envOfC "lists_at" (defScope s_lists_at) s.heap.objs.size f cdv))) :
    PSs (cxOf CX0 P w K mg base N_lists_at "lists_at" (defScope s_lists_at) f cdv A outer s H E).nox (defBody s_lists_at) (t_lists_at K c) :=
  (pss_cons (ps_set (i := 2) sc_lists_at.nd rfl (Or.inl rfl) (pe_lst pa_nil))
    (pss_cons (ps_set (i := 3) sc_lists_at.nd rfl (Or.inl rfl) (pe_op op_add (pv 1) pe_int))
    (pss_cons (ps_for PassesOwn.never rfl (pi_range1 rfl T.b_range (pa_cons (pe_ix ix_list (pv 0) (pv 1) (fun _ _ => rfl)) pa_nil)) (pg_name (i := 4) sc_lists_at.nd rfl (Or.inl rfl)) (pss_cons (ps_set (i := 5) sc_lists_at.nd rfl (Or.inl rfl) (pe_op op_add (pe_op op_add (pv 3) pe_int) (pe_ix ix_list (pv 0) (pv 3) (fun _ _ => rfl))))
    (pss_cons (ps_expr (pe_bm PySem.F.plainAttrs_list PySem.F.slot_list_append PySem.F.type_list_append mt_append (pv 2) (pa_cons (pe_slice sl_list (pv 0) (po_some (pe_op op_add (pv 3) pe_int)) (po_some (pv 5))) pa_nil)))
    (pss_one (ps_set (i := 3) sc_lists_at.nd rfl (Or.inl rfl) (pv 5))))))
    (pss_one (ps_ret (pe_tup (pa_cons (pv 2) (pa_cons (pv 3) pa_nil))))))))

theorem sc_answers : FnScope N_answers P_answers (defScope s_answers) := ⟨rfl, rfl, rfl, by decide +kernel, rfl, by decide +kernel, by decide +kernel⟩
theorem d_answers {f : Addr} {cdv : Value} {A : Around} {outer : List Env} {s : Shared} {H : Hp} {E : XK} {q_Setter_init q_lists_at q_answer : Sp} (T : Txt K mg c) (hr : Room 7 (A.deeper (envOfC "answers" (defScope s_answers) s.heap.objs.size f cdv))) (D_Setter_init : Idf P w K mg base c.se P_Setter_init 4 q_Setter_init) (D_lists_at : Df P w K mg base "lists_at" P_lists_at 1 q_lists_at) (D_answer : Df P w K mg base "answer" P_answer 7 q_answer) :
    PSs (cxOf CX0 P w K mg base N_answers "answers" (defScope s_answers) f cdv A outer s H E).nox (defBody s_answers) (t_answers K c q_Setter_init q_lists_at q_answer) :=
  (pss_cons (ps_set (i := 1) sc_answers.nd rfl (Or.inl rfl) (pe_id0 D_Setter_init (hr.mono (by decide)) rfl T.gse))
    (pss_cons (ps_set (i := 2) sc_answers.nd rfl (Or.inl rfl) (pe_lst pa_nil))
    (pss_cons (ps_set (i := 3) sc_answers.nd rfl (Or.inl rfl) pe_int)
    (pss_cons (ps_while PassesOwn.never (pt_cmpR op_lt (pv 3) (pe_callB call_len_seq (by rfl) T.b_len PySem.boot_len (pa_cons (pv 0) pa_nil)) (nomark _)) (pss_cons (ps_set (i := 4) sc_answers.nd rfl (Or.inl rfl) (pe_op op_add (pe_op op_add (pv 3) pe_int) (pe_ix ix_list (pv 0) (pe_op op_add (pv 3) pe_int) (fun _ _ => rfl))))
    (pss_cons (ps_set (i := 5) sc_answers.nd rfl (Or.inl rfl) (pe_slice sl_list (pv 0) (po_some (pe_op op_add (pv 3) pe_int)) (po_some (pv 4))))
    (pss_cons (ps_asg (pe_df D_lists_at (hr.mono (by decide)) rfl (pa_cons (pv 0) (pa_cons (pv 4) pa_nil))) (pg_tup rfl (pgs_cons (pg_name (i := 6) sc_answers.nd rfl (Or.inl rfl)) (pgs_cons (pg_name (i := 7) sc_answers.nd rfl (Or.inl rfl)) pgs_nil))))
    (pss_cons (ps_set (i := 8) sc_answers.nd rfl (Or.inl rfl) (pe_df D_answer (hr.mono (by decide)) rfl (pa_cons (pv 1) (pa_cons (pe_ix ix_list (pv 0) (pv 3) (fun _ _ => rfl)) (pa_cons (pv 5) (pa_cons (pv 6) pa_nil))))))
    (pss_cons (ps_set (i := 2) sc_answers.nd rfl (Or.inl rfl) (pe_op op_cat (pe_op op_cat (pv 2) (pe_lst (pa_cons (pe_callB call_len_seq (by rfl) T.b_len PySem.boot_len (pa_cons (pv 8) pa_nil)) pa_nil))) (pv 8)))
    (pss_one (ps_set (i := 3) sc_answers.nd rfl (Or.inl rfl) (pv 7)))))))))
    (pss_one (ps_ret (pv 2)))))))
end HC

/-! # headcolumns: readings, part A: sheets -/
namespace HC
open PySem PySem.Spec PyProof.Rows L2
variable {K : PySem.W.Frag} {c : CA}

/-! ## helps -/
theorem put_new {f : Str} {v : V} : ∀ {fs : List (Str × V)} (ks : List Str) (_ : fs.map (·.1) = ks) (_ : ks.all (fun g => !decide (g = f)) = true), putF f v fs = fs ++ [(f, v)]
  | [], _, _, _ => rfl
  | (g, u) :: r, ks, e, h => by
    cases ks with
    | nil => cases e
    | cons k ks =>
      obtain ⟨e1, e2⟩ := List.cons.inj e
      rw [List.all_cons, Bool.and_eq_true] at h
      have ne : ¬ g = f := by
        have h1 := h.1
        rw [← e1] at h1
        simpa using h1
      rw [put_past ne, put_new ks e2 h.2]
      rfl
theorem sq_but {H H2 : Hp} {a p C dx : Addr} {fs : List (Str × V)} {xs : List V} (h : SqL K H a xs) (hp : H p = some (.ins C dx fs)) (s : Same (Hide H p) H2) : SqL K H2 a xs := by
  rcases h with (h | ⟨o, h⟩) | h
  · exact .inl (.inl (s _ _ (hide_some.mpr ⟨ne_of h hp (by intro z; cases z), h⟩)))
  · exact .inl (.inr ⟨o, s _ _ (hide_some.mpr ⟨ne_of h hp (by intro z; cases z), h⟩)⟩)
  · exact .inr h
/-- o.f = y, o in slot i: the rest goes on from a heap that is so at o and else as before -/
theorem k_fld {f : Str} {i : Nat} {σ : L2.St} {H1 : Hp} {y : V} {a C dx : Addr} {fs : List (Str × V)} (fs' : List (Str × V)) {N : L2.St → Hp → Prop} (hs : σ[i]? = some (some (.ref a))) (h : H1 a = some (.ins C dx fs)) (cl : Cls K C) (n : NoAttr K C f) (l : fs.length < 1000)
    (e : putF f y fs = fs') (k : ∀ H2 : Hp, H2 a = some (.ins C dx fs') → Same (Hide H1 a) H2 → N σ H2) :
    (tVar i) σ H1 fun x H2 => ∃ a C dx fs, x = .ref a ∧ H2 a = some (.ins C dx fs) ∧ Cls K C ∧ NoAttr K C f ∧ fs.length < 1000 ∧ N σ (upd H2 a (.ins C dx (putF f y fs))) :=
  ⟨_, hs, a, C, dx, fs, rfl, h, cl, n, l, k _ (by rw [upd_same, e]) fun b o q => by
    obtain ⟨q1, q2⟩ := hide_some.mp q
    rw [upd_ne q1]
    exact q2⟩
theorem Same.but {H H1 H2 : Hp} {a : Addr} (h1 : Same (Hide H a) H1) (h2 : Same (Hide H1 a) H2) : Same (Hide H a) H2 := fun b o q => h2 b o (hide_some.mpr ⟨(hide_some.mp q).1, h1 b o q⟩)
theorem Same.butUpd {H H1 : Hp} {a p : Addr} {o : HO} (h1 : Same (Hide H a) H1) (hp : H1 p = none) : Same (Hide H a) (upd H1 p o) := fun b u q => by
  rw [upd_ne (ne_of_none (h1 b u q) hp)]
  exact h1 b u q
/-- what is new stays new -/
theorem new_in {H H1 H2 : Hp} {a b : Addr} {o : HO} (n : New (Hide H a) H1 b = some o) (nb : b ≠ a) (h : Same (Hide H1 a) H2) : New (Hide H a) H2 b = some o := by
  obtain ⟨q1, q2⟩ := new_some.mp n
  exact new_some.mpr ⟨q1, h b o (hide_some.mpr ⟨nb, q2⟩)⟩
theorem fits {i : Int} (h : -9000000000000000000 ≤ i) (h2 : i ≤ 9000000000000000000) : Builtin.Range.rangeFitsLong i = true := by
  unfold Builtin.Range.rangeFitsLong
  rw [Bool.and_eq_true]
  exact ⟨decide_eq_true (by omega), decide_eq_true (by omega)⟩
theorem rg4 {n : Nat} (h : n ≤ 1000000) : RgC 0 ((4 * n : Nat) : Int) 4 n := by
  have e : Builtin.Range.rangeSize 0 ((4 * n : Nat) : Int) 4 = (n : Int) := by
    rw [rangeSize_pos (by decide) (by omega)]
    omega
  refine ⟨by decide, by decide, ?_, e⟩
  unfold Builtin.Range.small
  rw [e, fits (by omega) (by omega), fits (by omega) (by omega), fits (by omega) (by omega), fits (by omega) (by omega), if_pos (by decide), fits (by omega) (by omega)]
  simp
theorem wN_len : ∀ ws : List IhColumn.Width, (wN ws).length = 4 * ws.length
  | [] => rfl
  | w :: r => by
    have ih := wN_len r
    show ([w.from_, w.to_, w.width, w.kind] ++ wN r).length = _
    rw [List.length_append, ih]
    simp
    omega
theorem wN_get : ∀ {ws : List IhColumn.Width} {i : Nat} {x : IhColumn.Width}, ws[i]? = some x → (wN ws)[4 * i]? = some x.from_ ∧ (wN ws)[4 * i + 1]? = some x.to_ ∧ (wN ws)[4 * i + 2]? = some x.width ∧ (wN ws)[4 * i + 3]? = some x.kind
  | [], i, x, h => by simp at h
  | w :: r, 0, x, h => by
    have e : w = x := Option.some.inj h
    subst e
    exact ⟨rfl, rfl, rfl, rfl⟩
  | w :: r, i + 1, x, h => by
    have ih := wN_get (ws := r) (i := i) (x := x) h
    have e : ∀ j, (wN (w :: r))[4 * (i + 1) + j]? = (wN r)[4 * i + j]? := fun j => by
      show ([w.from_, w.to_, w.width, w.kind] ++ wN r)[4 * (i + 1) + j]? = _
      rw [List.getElem?_append_right (by simp; omega)]
      congr 1
      simp
      omega
    exact ⟨(e 0).trans ih.1, (e 1).trans ih.2.1, (e 2).trans ih.2.2.1, (e 3).trans ih.2.2.2⟩
theorem take_more {α : Type} : ∀ {l : List α} {i : Nat} {x : α}, l[i]? = some x → l.take (i + 1) = l.take i ++ [x]
  | [], i, x, h => by simp at h
  | a :: l, 0, x, h => by
    have e : a = x := Option.some.inj h
    subst e
    rfl
  | a :: l, i + 1, x, h => by
    have ih := take_more (l := l) (i := i) (x := x) h
    show a :: l.take (i + 1) = a :: l.take i ++ [x]
    rw [ih]
    rfl
theorem get_of_lt {α : Type} {l : List α} {i : Nat} (h : i < l.length) : ∃ x, l[i]? = some x := ⟨l[i], List.getElem?_eq_getElem h⟩
theorem cut_of {xs : List V} {a b : Nat} {lo hi : Option Int} (hl : lo = some (a : Int)) (hh : hi = some (b : Int)) (ha : a ≤ b) (hb : b ≤ xs.length) : cutV xs lo hi = (xs.drop a).take (b - a) := by
  subst hl hh
  unfold cutV
  rw [HT.sIx_nat, HT.sIx_nat, Nat.min_eq_left (by omega), Nat.min_eq_left (by omega)]
theorem Same.newMake {H H1 : Hp} {x dx C : Addr} (nx : H x = none) (nd : H dx = none) : Same H (Hide (upd (upd H dx (.own x)) x (.ins C dx [])) x) := fun b o q => by
  refine hide_some.mpr ⟨ne_of_none q nx, ?_⟩
  rw [upd_ne (ne_of_none q nx), upd_ne (ne_of_none q nd)]
  exact q

/-! ## Sheet.__init__ -/
theorem p_Sheet_init (T : Kf K c) {vs : List V} {H : Hp} {Q : VK} {E : XK} (h : sp_Sheet_init K c vs H Q E) : t_Sheet_init K c { nx := fun _ H' => Q .non H', rt := Q } (start N_Sheet_init vs) H := by
  obtain ⟨p, dx, an, aw, ac, w, h, i1, i2, i3, t, g, ws, cut, rfl, hp, hn, hw, hc, k⟩ := h
  refine ⟨_, rfl, an, _, _, _, rfl, rfl, hn, at_nvs (i := 0) rfl rfl, k_fld [("width", nv w)] rfl hp T.clsh T.nwidth (by decide) rfl fun H1 h1 s1 => ?_⟩
  have hn1 := sq_but hn hp s1
  refine ⟨_, rfl, an, _, _, _, rfl, rfl, hn1, at_nvs (i := 1) rfl rfl, k_fld [("width", nv w), ("height", nv h)] rfl h1 T.clsh T.nheight (by simp) (put_new ["width"] rfl (by decide +kernel)) fun H2 h2 s2 => ?_⟩
  have t2 := Same.but s1 s2
  have hn2 := sq_but hn1 h1 s2
  refine ⟨_, rfl, _, rfl, _, rfl, an, _, rfl, hn2, fun q1 hq1 => ⟨q1, _, rfl, .inl (SqL.of upd_same), fun q2 hq2 => ?_⟩⟩
  rw [show cutV (nvs [w, h, i1, i2, i3, t, g]) (some 2) (some 5) = nvs [i1, i2, i3] from cut_of (a := 2) (b := 5) rfl rfl (by decide) (by show 5 ≤ 7; decide)]
  have hp2 : upd (upd H2 q1 (.lst (nvs [i1, i2, i3]))) q2 (.lst (nvs [i1, i2, i3])) p = some (.ins c.sh dx [("width", nv w), ("height", nv h)]) := by
    have n2 : p ≠ q2 := by
      rintro rfl
      rw [upd_ne (ne_of_none h2 hq1), h2] at hq2
      cases hq2
    rw [upd_ne n2, upd_ne (ne_of_none h2 hq1)]
    exact h2
  refine k_fld [("width", nv w), ("height", nv h), ("indents", .ref q2)] rfl hp2 T.clsh T.nindents (by simp) (put_new ["width", "height"] rfl (by decide +kernel)) fun H3 h3 s3 => ?_
  have u2 : Same H2 (upd (upd H2 q1 (.lst (nvs [i1, i2, i3]))) q2 (.lst (nvs [i1, i2, i3]))) := Same.trans (Same.newUpd hq1) (Same.newUpd hq2)
  have t3 : Same (Hide H p) H3 := fun b o q => s3 b o (hide_some.mpr ⟨(hide_some.mp q).1, u2 b o (t2 b o q)⟩)
  have i3n : H3 q2 = some (.lst (nvs [i1, i2, i3])) := s3 _ _ (hide_some.mpr ⟨(ne_of_none h2 (Same.free (Same.newUpd hq1) hq2)).symm, upd_same⟩)
  have q2n : Hide H p q2 = none := Same.free t2 (Same.free (Same.newUpd hq1) hq2)
  have q2p : q2 ≠ p := (ne_of_none h2 (Same.free (Same.newUpd hq1) hq2)).symm
  have hn3 : SqL K H3 an (nvs [w, h, i1, i2, i3, t, g]) := sq_but (Same.seq u2 hn2) hp2 s3
  clear hn2 hn1 s3 u2 hp2
  refine ⟨_, rfl, an, _, _, _, rfl, rfl, hn3, at_nvs (i := 5) rfl rfl, k_fld [("width", nv w), ("height", nv h), ("indents", .ref q2), ("turn", nv t)] rfl h3 T.clsh T.nturn (by simp) (put_new ["width", "height", "indents"] rfl (by decide +kernel)) fun H4 h4 s4 => ?_⟩
  have hn4 := sq_but hn3 h3 s4
  have t4 := Same.but t3 s4
  have i4n := s4 _ _ (hide_some.mpr ⟨q2p, i3n⟩)
  refine ⟨_, rfl, an, _, _, _, rfl, rfl, hn4, at_nvs (i := 6) rfl rfl, k_fld [("width", nv w), ("height", nv h), ("indents", .ref q2), ("turn", nv t), ("gap", nv g)] rfl h4 T.clsh T.ngap (by simp) (put_new ["width", "height", "indents", "turn"] rfl (by decide +kernel)) fun H5 h5 s5 => ?_⟩
  have t5 := Same.but t4 s5
  have i5n := s5 _ _ (hide_some.mpr ⟨q2p, i4n⟩)
  have hw5 : SqL K H5 aw (nvs (wN ws)) := sq_but hw hp t5
  refine ⟨_, rfl, aw, _, rfl, .inl hw5, fun q3 hq3 => ?_⟩
  refine k_fld [("width", nv w), ("height", nv h), ("indents", .ref q2), ("turn", nv t), ("gap", nv g), ("widths", .ref q3)] rfl (show upd H5 q3 _ p = _ from (upd_ne (ne_of_none h5 hq3)).trans h5) T.clsh T.nwidths (by simp) (put_new ["width", "height", "indents", "turn", "gap"] rfl (by decide +kernel)) fun H6 h6 s6 => ?_
  have q3p : q3 ≠ p := (ne_of_none h5 hq3).symm
  have t6 : Same (Hide H p) H6 := fun b o q => s6 b o (hide_some.mpr ⟨(hide_some.mp q).1, Same.butUpd t5 hq3 b o q⟩)
  have i6n := s6 q2 _ (hide_some.mpr ⟨q2p, (upd_ne (ne_of_none i5n hq3)).trans i5n⟩)
  have w6n := s6 q3 _ (hide_some.mpr ⟨q3p, upd_same⟩)
  have q3n : Hide H p q3 = none := Same.free t5 hq3
  have hc6 : SqL K H6 ac (nvs cut) := sq_but hc hp t6
  refine ⟨_, rfl, ac, _, rfl, .inl hc6, fun q4 hq4 => ?_⟩
  refine k_fld [("width", nv w), ("height", nv h), ("indents", .ref q2), ("turn", nv t), ("gap", nv g), ("widths", .ref q3), ("cut", .ref q4)] rfl (show upd H6 q4 _ p = _ from (upd_ne (ne_of_none h6 hq4)).trans h6) T.clsh T.ncut (by simp) (put_new ["width", "height", "indents", "turn", "gap", "widths"] rfl (by decide +kernel)) fun H7 h7 s7 => ?_
  have q4p : q4 ≠ p := (ne_of_none h6 hq4).symm
  have t7 : Same (Hide H p) H7 := fun b o q => s7 b o (hide_some.mpr ⟨(hide_some.mp q).1, Same.butUpd t6 hq4 b o q⟩)
  have i7n := s7 q2 _ (hide_some.mpr ⟨q2p, (upd_ne (ne_of_none i6n hq4)).trans i6n⟩)
  have w7n := s7 q3 _ (hide_some.mpr ⟨q3p, (upd_ne (ne_of_none w6n hq4)).trans w6n⟩)
  have c7n := s7 q4 _ (hide_some.mpr ⟨q4p, upd_same⟩)
  have q4n : Hide H p q4 = none := Same.free t6 hq4
  exact k H7 t7 ⟨p, dx, q2, q3, q4, rfl, new_some.mpr ⟨hide_self, h7⟩, new_some.mpr ⟨q2n, i7n⟩, new_some.mpr ⟨q3n, w7n⟩, new_some.mpr ⟨q4n, c7n⟩, rfl⟩

/-! ## first_sheet -/
theorem p_first_sheet (T : Kf K c) {vs : List V} {H : Hp} {Q : VK} {E : XK} (h : sp_first_sheet K c vs H Q E) : t_first_sheet K c (sp_Sheet_init K c) { nx := fun _ H' => Q .non H', rt := Q } (start N_first_sheet vs) H := by
  obtain ⟨rfl, k⟩ := h
  refine ⟨by show 7 ≤ sizeLine; decide, fun p1 n1 => ⟨by show 0 ≤ sizeLine; decide, fun p2 n2 => ⟨by show 0 ≤ sizeLine; decide, fun p3 n3 => ?_⟩⟩⟩
  intro x dx nx nd ne
  have s1 : Same H _ := Same.trans (Same.newUpd (o := .lst [V.int 0, V.int 3, V.int 0, V.int 0, V.int 0, V.int 0, V.int 0]) n1) (Same.trans (Same.newUpd (o := .lst []) n2) (Same.newUpd (o := .lst []) n3))
  have m := Same.newMake (H1 := H) (C := c.sh) nx nd
  have e1 : SqL K (upd (upd (upd H p1 (.lst [V.int 0, V.int 3, V.int 0, V.int 0, V.int 0, V.int 0, V.int 0])) p2 (.lst [])) p3 (.lst [])) p1 (nvs [0, 3, 0, 0, 0, 0, 0]) := Same.seq (Same.trans (Same.newUpd n2) (Same.newUpd n3)) (SqL.of upd_same)
  have e2 : SqL K (upd (upd (upd H p1 (.lst [V.int 0, V.int 3, V.int 0, V.int 0, V.int 0, V.int 0, V.int 0])) p2 (.lst [])) p3 (.lst [])) p2 (nvs (wN [])) := Same.seq (Same.newUpd n3) (SqL.of upd_same)
  have e3 : SqL K (upd (upd (upd H p1 (.lst [V.int 0, V.int 3, V.int 0, V.int 0, V.int 0, V.int 0, V.int 0])) p2 (.lst [])) p3 (.lst [])) p3 (nvs []) := SqL.of upd_same
  have m' := Same.trans m Same.hide
  refine ⟨x, dx, p1, p2, p3, 0, 3, 0, 0, 0, 0, 0, [], [], rfl, upd_same, Same.seq m' e1, Same.seq m' e2, Same.seq m' e3, fun H' s r => ⟨rfl, ?_⟩⟩
  exact k _ _ (Same.trans s1 (Same.trans m s)) (SheR.mono.up (Same.new1 (Same.trans s1 m)) r)
end HC

/-! # headcolumns: readings, part A2: sheets -/
namespace HC
open PySem PySem.Spec PyProof.Rows L2
variable {K : PySem.W.Frag} {c : CA}

theorem if_tt {b : Bool} {A B : Prop} (hc : b = true) (h : A) : if b = true then A else B := by
  rw [if_pos hc]
  exact h
theorem if_ff {b : Bool} {A B : Prop} (hc : b = false) (h : B) : if b = true then A else B := by
  rw [hc, if_neg Bool.false_ne_true]
  exact h
abbrev pw (n : Nat) : IhColumn.Width → Bool := fun w => decide (w.from_ ≤ n) && decide (n ≤ w.to_)
theorem of_some {s : She} {n : Nat} {x : IhColumn.Width} (h : s.widths.find? (pw n) = some x) : s.of_ n = (x.width, x.kind) := by
  show (match s.widths.find? (pw n) with
    | some w => (w.width, w.kind)
    | none => (1, 0)) = _
  rw [h]
theorem of_none {s : She} {n : Nat} (h : s.widths.find? (pw n) = none) : s.of_ n = (1, 0) := by
  show (match s.widths.find? (pw n) with
    | some w => (w.width, w.kind)
    | none => (1, 0)) = _
  rw [h]
theorem find_hit {α : Type} {p : α → Bool} : ∀ {l : List α} {i : Nat} {x : α}, (l.take i).find? p = none → l[i]? = some x → p x = true → l.find? p = some x
  | [], i, x, _, h, _ => by simp at h
  | a :: l, 0, x, _, h, q => by
    have e : a = x := Option.some.inj h
    subst e
    exact List.find?_cons_of_pos q
  | a :: l, i + 1, x, n, h, q => by
    rw [List.take_succ_cons] at n
    by_cases pa : p a = true
    · rw [List.find?_cons_of_pos pa] at n
      cases n
    · rw [List.find?_cons_of_neg pa] at n ⊢
      exact find_hit n h q
theorem find_miss {α : Type} {p : α → Bool} {l : List α} {i : Nat} {x : α} (n : (l.take i).find? p = none) (h : l[i]? = some x) (q : p x = false) : (l.take (i + 1)).find? p = none := by
  rw [take_more h, List.find?_append, n]
  have : ¬ p x = true := by rw [q]; exact Bool.false_ne_true
  rw [List.find?_cons_of_neg this]
  rfl
theorem p_sign_of (T : Kf K c) {vs : List V} {H : Hp} {Q : VK} {E : XK} (h : sp_sign_of K c vs H Q E) : t_sign_of K c { nx := fun _ H' => Q .non H', rt := Q } (start N_sign_of vs) H := by
  obtain ⟨v, s, n, rfl, ⟨a, dx, ix, w, t, rfl, ha, hi, hw, hc, hl⟩, hwl, k⟩ := h
  refine ⟨_, rfl, a, _, rfl, fd_widths T ha, ?_⟩
  refine ⟨_, rfl, w, _, rfl, .inl (SqL.of hw), 0, _, 4, s.widths.length, rfl, ?_, for_rangeC (fun i σ H' => H' = H ∧ (∃ o, σ = [some (.ref a), some (nv n), some (.ref w), o]) ∧ (s.widths.take i).find? (pw n) = none) ⟨rfl, ⟨none, rfl⟩, rfl⟩ ?_ ?_⟩
  · rw [nvs_len, wN_len]
    exact rg4 hwl
  · rintro i σ H' hi' ⟨rfl, ⟨o, rfl⟩, hf⟩
    obtain ⟨x, hx⟩ := get_of_lt hi'
    obtain ⟨g0, g1, g2, g3⟩ := wN_get hx
    refine ⟨_, rfl, _, rfl, w, _, _, _, rfl, rfl, SqL.of hw, at_nvs (i := 4 * i) (by omega) g0, _, rfl, _, _, rfl, rfl, _, rfl, ?_⟩
    by_cases c1 : x.from_ ≤ n
    · refine if_tt (decide_eq_true (by omega)) ?_
      refine ⟨_, rfl, _, rfl, _, _, rfl, rfl, w, _, _, _, rfl, rfl, SqL.of hw, at_nvs (i := 4 * i + 1) (by omega) g1, _, _, rfl, rfl, _, rfl, ?_⟩
      by_cases c2 : n ≤ x.to_
      · refine if_tt (decide_eq_true (by omega)) ?_
        refine ⟨_, rfl, _, rfl, _, _, rfl, rfl, w, _, _, _, rfl, rfl, SqL.of hw, at_nvs (i := 4 * i + 2) (by omega) g2, _, rfl, _, rfl, _, _, rfl, rfl, w, _, _, _, rfl, rfl, SqL.of hw, at_nvs (i := 4 * i + 3) (by omega) g3, (by show 2 ≤ sizeLine; decide), fun p hp => ?_⟩
        have e : s.of_ n = (x.width, x.kind) := of_some (find_hit hf hx (by simp [c1, c2]))
        exact k _ _ (Same.newUpd hp) ⟨p, rfl, new_some.mpr ⟨hp, by rw [e]; exact upd_same⟩⟩
      · refine if_ff (decide_eq_false (by omega)) ?_
        exact ⟨rfl, ⟨_, rfl⟩, find_miss hf hx (by simp [c2])⟩
    · refine if_ff (decide_eq_false (by omega)) ⟨_, rfl, iteF ?_⟩
      exact ⟨rfl, ⟨_, rfl⟩, find_miss hf hx (by simp [c1])⟩
  · rintro σ H' ⟨rfl, ⟨o, rfl⟩, hf⟩
    refine ⟨by show 2 ≤ sizeLine; decide, fun p hp => ?_⟩
    rw [List.take_length] at hf
    exact k _ _ (Same.newUpd hp) ⟨p, rfl, new_some.mpr ⟨hp, by rw [of_none hf]; exact upd_same⟩⟩

theorem PrR.keep {G G' : Hp} {v : V} {p : Nat × Nat} (h : ∀ b xs, G b = some (.tup xs) → G' b = some (.tup xs)) (r : PrR G v p) : PrR G' v p := by
  obtain ⟨t, e, q⟩ := r
  exact ⟨t, e, h _ _ q⟩
theorem p_signs_of (T : Kf K c) {vs : List V} {H : Hp} {Q : VK} {E : XK} (h : sp_signs_of K c vs H Q E) : t_signs_of K c (sp_sign_of K c) { nx := fun _ H' => Q .non H', rt := Q } (start N_signs_of vs) H := by
  obtain ⟨v, x, s, t, rfl, hs, hx, hwl, htl, k⟩ := h
  intro d nd
  refine ⟨by show 0 ≤ sizeLine; decide, fun l nl => ?_⟩
  have ld : l ≠ d := by
    rintro rfl
    rw [upd_same] at nl
    cases nl
  have nl0 : H l = none := Same.free (Same.newUpd nd) nl
  have s0 : Same H (upd (upd H d (.dK [])) l (.lst [])) := Same.trans (Same.newUpd nd) (Same.newUpd nl)
  refine ⟨_, rfl, x, rfl, ⟨_, Same.seq s0 hx⟩, for_list (K := K) (a := x) (xs := nvs t) (fun i σ H' => ∃ (o : Option V) (kvs : List (Key × V)), σ = [some v, some (.ref x), some (.ref d), some (.ref l), o] ∧ Same H H' ∧ H' d = some (.dK kvs) ∧ kvs.length ≤ i ∧
    (∀ (n : Nat) (u : V), valV kvs (Sum.inl (n : Int) : Key) = some u → PrR (New H H') u (s.of_ n)) ∧ Grow PrR H H' l ((t.take i).map s.of_)) ⟨none, [], rfl, s0, (upd_ne ld.symm).trans upd_same, Nat.le_refl _, (fun n u q => by cases q), Grow.nil nl0 upd_same⟩
    (fun i σ H' _ ⟨_, _, _, s1, _⟩ => Same.seq s1 hx) ?_ ?_⟩
  · rintro i y σ H' hi ⟨o, kvs, rfl, s1, hd, hk, hv, hg⟩
    obtain ⟨n, hn, rfl⟩ := nvs_of hi
    have hil : i < t.length := (List.getElem?_eq_some_iff.mp hn).1
    have tk : (t.take (i + 1)).map s.of_ = (t.take i).map s.of_ ++ [s.of_ n] := by rw [take_more hn, List.map_append]; rfl
    refine ⟨_, rfl, _, rfl, d, valV kvs (Sum.inl (n : Int) : Key), rfl, DGet.k (k := (Sum.inl (n : Int) : Key)) hd, _, rfl, ?_⟩
    cases e : valV kvs (Sum.inl (n : Int) : Key) with
    | none =>
      refine if_tt rfl ?_
      refine ⟨_, rfl, _, rfl, v, s, n, rfl, SheR.mono.up s1 hs, hwl, fun u H1 s2 r2 => ⟨_, rfl, _, rfl, d, _, rfl, DPut.k (k := (Sum.inl (n : Int) : Key)) (s2 _ _ hd) (Nat.lt_of_le_of_lt hk (Nat.lt_of_lt_of_le hil (Nat.le_trans htl (by decide)))), ?_⟩⟩
      obtain ⟨_, vs1, hl1, el, _⟩ := id (Grow.same PrR.mono s2 hg)
      have hl2 : upd H1 d (.dK (putK kvs (Sum.inl (n : Int) : Key) u)) l = some (.lst vs1) := (upd_ne ld).trans hl1
      have s3 : Same H (upd H1 d (.dK (putK kvs (Sum.inl (n : Int) : Key) u))) := Same.mut (Same.trans s1 s2) nd
      have keep : ∀ b xs, New H H1 b = some (.tup xs) → New H (upd H1 d (.dK (putK kvs (Sum.inl (n : Int) : Key) u))) b = some (.tup xs) := fun b xs q => by
        obtain ⟨q1, q2⟩ := new_some.mp q
        refine new_some.mpr ⟨q1, ?_⟩
        rw [upd_ne (ne_of q2 (s2 _ _ hd) (by intro z; cases z))]
        exact q2
      have ru : PrR (New H H1) u (s.of_ n) := PrR.mono.up (Same.new1 s1) r2
      have ev : valV (putK kvs (Sum.inl (n : Int) : Key) u) (Sum.inl (n : Int) : Key) = some u := by rw [valV_put, if_pos rfl]
      have g2 : Grow PrR H (upd H1 d (.dK (putK kvs (Sum.inl (n : Int) : Key) u))) l ((t.take i).map s.of_) := by
        obtain ⟨a1, vs2, a2, a3, a4⟩ := Grow.same PrR.mono s2 hg
        refine ⟨a1, vs2, (upd_ne ld).trans a2, a3, fun j z y b1 b2 => PrR.keep (fun b xs q => ?_) (a4 j z y b1 b2)⟩
        obtain ⟨q1, q2⟩ := hide_some.mp q
        exact hide_some.mpr ⟨q1, keep b xs q2⟩
      have dg : DGet (upd H1 d (.dK (putK kvs (Sum.inl (n : Int) : Key) u))) d (nv n) (some u) := by
        rw [← ev]
        exact DGet.k (k := (Sum.inl (n : Int) : Key)) upd_same
      refine ⟨_, rfl, .inl ⟨rfl, _, SqL.of hl2⟩, _, rfl, _, rfl, d, u, rfl, dg, l, vs1, _, rfl, rfl, hl2, ?_, ?_⟩
      · rw [el, List.length_map, List.length_take]
        exact Nat.lt_of_le_of_lt (Nat.min_le_left _ _) (Nat.lt_of_lt_of_le hil (Nat.le_trans htl (by decide)))
      · refine ⟨_, putK kvs (Sum.inl (n : Int) : Key) u, rfl, Same.mut s3 nl0, (upd_ne ld.symm).trans upd_same, ?_, ?_, ?_⟩
        · have lp : ∀ (q : List (Key × V)), (putK q (Sum.inl (n : Int) : Key) u).length ≤ q.length + 1 := fun q => by
            unfold putK
            split
            · rw [List.length_map]; omega
            · rw [List.length_append]; simp
          exact Nat.le_trans (lp kvs) (by omega)
        · intro m z q
          rw [valV_put] at q
          refine PrR.keep (fun b xs q => ?_) (show PrR (New H H1) z (s.of_ m) from ?_)
          · obtain ⟨q1, q2⟩ := new_some.mp (keep b xs q)
            refine new_some.mpr ⟨q1, ?_⟩
            rw [upd_ne (ne_of q2 hl2 (by intro z; cases z))]
            exact q2
          · by_cases hm : (Sum.inl (m : Int) : Key) = Sum.inl (n : Int)
            · rw [if_pos hm] at q
              cases q
              have em : m = n := by
                have := Sum.inl.inj hm
                omega
              rw [em]
              exact ru
            · rw [if_neg hm] at q
              exact PrR.mono.up (Same.new2 s2) (hv m z q)
        · rw [tk]
          refine Grow.push PrR.mono g2 hl2 (PrR.keep (fun b xs q => ?_) ru)
          refine hide_some.mpr ⟨ne_of (new_some.mp q).2 hl1 (by intro z; cases z), keep b xs q⟩
    | some u =>
      refine if_ff rfl ?_
      obtain ⟨_, vs1, hl1, el, _⟩ := id hg
      have dg : DGet H' d (nv n) (some u) := by
        rw [← e]
        exact DGet.k (k := (Sum.inl (n : Int) : Key)) hd
      have ru := hv n u e
      refine ⟨_, rfl, .inl ⟨rfl, _, SqL.of hl1⟩, _, rfl, _, rfl, d, u, rfl, dg, l, vs1, _, rfl, rfl, hl1, ?_, ?_⟩
      · rw [el, List.length_map, List.length_take]
        exact Nat.lt_of_le_of_lt (Nat.min_le_left _ _) (Nat.lt_of_lt_of_le hil (Nat.le_trans htl (by decide)))
      · refine ⟨_, kvs, rfl, Same.mut s1 nl0, (upd_ne ld.symm).trans hd, by omega, ?_, ?_⟩
        · intro m z q
          refine PrR.keep (fun b xs q => ?_) (hv m z q)
          obtain ⟨q1, q2⟩ := new_some.mp q
          refine new_some.mpr ⟨q1, ?_⟩
          rw [upd_ne (ne_of q2 hl1 (by intro z; cases z))]
          exact q2
        · rw [tk]
          refine Grow.push PrR.mono hg hl1 (PrR.keep (fun b xs q => ?_) ru)
          exact hide_some.mpr ⟨ne_of (new_some.mp q).2 hl1 (by intro z; cases z), q⟩
  · rintro σ H' ⟨o, kvs, rfl, s1, hd, hk, hv, hg⟩
    rw [nvs_len, List.take_length] at hg
    exact ⟨_, rfl, k _ _ s1 (Grow.done PrR.mono hg)⟩

theorem nvs_int (l : List Nat) : nvs l = (l.map fun (n : Nat) => (n : Int)).map V.int := by
  unfold nvs
  rw [List.map_map]
  rfl
theorem sum_int : ∀ l : List Nat, (l.map fun (n : Nat) => (n : Int)).sum = ((l.sum : Nat) : Int)
  | [] => rfl
  | a :: r => by
    rw [List.map_cons, List.sum_cons, sum_int r, List.sum_cons]
    omega
theorem p_width_of (T : Kf K c) {vs : List V} {H : Hp} {Q : VK} {E : XK} (h : sp_width_of K c vs H Q E) : t_width_of K c { nx := fun _ H' => Q .non H', rt := Q } (start N_width_of vs) H := by
  obtain ⟨v, ss, rfl, ⟨l, us, rfl, hl, el, hr⟩, hz, k⟩ := h
  refine ⟨_, rfl, l, rfl, ⟨_, SqL.of hl⟩, fun D nD => lc_list (K := K) (a := l) (xs := us) (fun i H' => Same H H' ∧ H' D = some (.lst (nvs ((ss.take i).map (fun p : Nat × Nat => p.1))))) ⟨Same.newUpd nD, upd_same⟩ (fun i H' _ q => SqL.of (q.1 _ _ hl)) ?_ ?_⟩
  · rintro i u H' hu ⟨s1, hD⟩
    have hi : i < ss.length := by
      rw [← el]
      exact (List.getElem?_eq_some_iff.mp hu).1
    obtain ⟨x, hx⟩ := get_of_lt hi
    obtain ⟨t, rfl, ht⟩ := hr i u x hu hx
    refine ⟨t, _, rfl, SqT.of (s1 _ _ ht), rfl, _, _, rfl, _, _, rfl, rfl, rfl, _, rfl, _, hD, ?_, Same.mut s1 nD, ?_⟩
    · rw [nvs_len, List.length_map, List.length_take]
      exact Nat.lt_of_le_of_lt (Nat.min_le_left _ _) (Nat.lt_of_lt_of_le hi (Nat.le_trans hz (by decide)))
    · rw [upd_same, take_more hx, List.map_append]
      unfold nvs
      rw [List.map_append]
      rfl
  · rintro H' ⟨s1, hD⟩
    rw [el, List.take_length] at hD
    refine ⟨D, (ss.map (fun p : Nat × Nat => p.1)).map (fun (n : Nat) => (n : Int)), rfl, SqL.of (by rw [hD, nvs_int]), ?_⟩
    rw [sum_int]
    exact k _ s1

theorem p_room_of (T : Kf K c) {vs : List V} {H : Hp} {Q : VK} {E : XK} (h : sp_room_of K c vs H Q E) : t_room_of K c { nx := fun _ H' => Q .non H', rt := Q } (start N_room_of vs) H := by
  obtain ⟨v, s, d, b, rfl, ⟨a, dx, ix, w, t, rfl, ha, hi, hw, hc, hl⟩, d1, d3, k⟩ := h
  obtain ⟨z, hz⟩ := get_of_lt (l := s.house.indent) (i := d - 1) (by omega)
  have ez : s.house.indent.getD (d - 1) 0 = z := by rw [List.getD_eq_getElem?_getD, hz]; rfl
  refine ⟨_, rfl, a, _, rfl, fd_width T ha, _, rfl, a, _, rfl, fd_indents T ha, _, rfl, _, _, rfl, rfl, ix, _, _, _, rfl, rfl, SqL.of hi, at_nvs (i := d - 1) (by omega) hz, _, _, rfl, rfl, ?_⟩
  refine ⟨_, rfl, b, rfl, ?_⟩
  cases b with
  | true =>
    refine if_ff rfl ?_
    refine ⟨_, rfl, _, 0, rfl, ?_⟩
    have e : (if (0 : Int) > (s.house.width : Int) - (z : Int) then (0 : Int) else (s.house.width : Int) - (z : Int)) = ((s.room d true : Nat) : Int) := by
      unfold IhColumn.Setter.room
      rw [ez, if_pos rfl]
      split <;> omega
    rw [e]
    exact k
  | false =>
    refine if_tt rfl ?_
    refine ⟨_, rfl, _, rfl, a, _, rfl, fd_turn T ha, _, _, rfl, rfl, ?_⟩
    refine ⟨_, rfl, _, 0, rfl, ?_⟩
    have e : (if (0 : Int) > (s.house.width : Int) - (z : Int) - (s.house.turn : Int) then (0 : Int) else (s.house.width : Int) - (z : Int) - (s.house.turn : Int)) = ((s.room d false : Nat) : Int) := by
      unfold IhColumn.Setter.room
      rw [ez, if_neg Bool.false_ne_true]
      split <;> omega
    rw [e]
    exact k

theorem p_are_right_widths (T : Kf K c) {vs : List V} {H : Hp} {Q : VK} {E : XK} (h : sp_are_right_widths K c vs H Q E) : t_are_right_widths K c { nx := fun _ H' => Q .non H', rt := Q } (start N_are_right_widths vs) H := by
  obtain ⟨w, ws, rfl, hw, hl, k⟩ := h
  refine ⟨_, rfl, w, _, rfl, .inl hw, 0, _, 4, ws.length, rfl, ?_, for_rangeC (fun i σ H' => H' = H ∧ (∃ o, σ = [some (.ref w), o]) ∧ (ws.take i).find? badW = none) ⟨rfl, ⟨none, rfl⟩, rfl⟩ ?_ ?_⟩
  · rw [nvs_len, wN_len]
    exact rg4 hl
  · rintro i σ H' hi' ⟨rfl, ⟨o, rfl⟩, hf⟩
    obtain ⟨x, hx⟩ := get_of_lt hi'
    obtain ⟨g0, g1, g2, g3⟩ := wN_get hx
    have bad : badW x = true → ws.any badW = true := fun q => List.any_eq_true.mpr ⟨x, List.mem_of_getElem? hx, q⟩
    refine ⟨_, rfl, _, rfl, w, _, _, _, rfl, rfl, hw, at_nvs (i := 4 * i) (by omega) g0, _, rfl, _, rfl, _, _, rfl, rfl, w, _, _, _, rfl, rfl, hw, at_nvs (i := 4 * i + 1) (by omega) g1, _, _, rfl, rfl, _, rfl, ?_⟩
    by_cases c1 : x.to_ < x.from_
    · refine if_tt (decide_eq_true (by omega)) ?_
      refine if_tt rfl ?_
      rw [bad (by simp [badW, c1])] at k
      exact k
    · refine if_ff (decide_eq_false (by omega)) ?_
      refine ⟨_, rfl, _, rfl, _, _, rfl, rfl, w, _, _, _, rfl, rfl, hw, at_nvs (i := 4 * i + 3) (by omega) g3, _, _, rfl, rfl, _, rfl, ?_⟩
      by_cases c2 : 2 < x.kind
      · refine if_tt (decide_eq_true (by omega)) ?_
        rw [bad (by simp [badW, c2])] at k
        exact k
      · refine if_ff (decide_eq_false (by omega)) ?_
        exact ⟨rfl, ⟨_, rfl⟩, find_miss hf hx (by simp [badW, c1, c2])⟩
  · rintro σ H' ⟨rfl, ⟨o, rfl⟩, hf⟩
    rw [List.take_length] at hf
    have e : ws.any badW = false := by
      rw [List.find?_eq_none] at hf
      rw [List.any_eq_false]
      exact hf
    rw [e] at k
    exact k

theorem p_sheet_refusal (T : Kf K c) {vs : List V} {H : Hp} {Q : VK} {E : XK} (h : sp_sheet_refusal K c vs H Q E) : t_sheet_refusal K c (sp_are_right_widths K c) (sp_width_of K c) (sp_signs_of K c) { nx := fun _ H' => Q .non H', rt := Q } (start N_sheet_refusal vs) H := by
  obtain ⟨v, s, rfl, hs, hwl, hcl, k⟩ := h
  obtain ⟨a, dx, ix, w, t, rfl, ha, hi, hw, hc, hl⟩ := id hs
  have yes : (s.house.height < 3 ∨ 1000 < s.house.height ∨ 100 < s.house.gap ∨ 1000000 < s.house.width ∨ 256 < s.widths.length ∨ 64 < s.cut.length) → Q (.int 1) H := fun q => by
    have := k H (Same.refl H)
    unfold refusal at this
    rw [if_pos q] at this
    exact this
  refine ⟨_, rfl, a, _, rfl, fd_height T ha, _, _, rfl, rfl, _, rfl, ?_⟩
  by_cases c1 : s.house.height < 3
  · refine if_tt (decide_eq_true (by omega)) (if_tt rfl (yes (.inl c1)))
  refine if_ff (decide_eq_false (by omega)) ?_
  refine ⟨_, rfl, a, _, rfl, fd_height T ha, _, _, rfl, rfl, _, rfl, ?_⟩
  by_cases c2 : 1000 < s.house.height
  · refine if_tt (decide_eq_true (by omega)) (if_tt rfl (yes (by omega)))
  refine if_ff (decide_eq_false (by omega)) ?_
  refine ⟨_, rfl, a, _, rfl, fd_gap T ha, _, _, rfl, rfl, _, rfl, ?_⟩
  by_cases c3 : 100 < s.house.gap
  · refine if_tt (decide_eq_true (by omega)) (yes (by omega))
  refine if_ff (decide_eq_false (by omega)) ?_
  refine ⟨_, rfl, a, _, rfl, fd_width T ha, _, _, rfl, rfl, _, rfl, ?_⟩
  by_cases c4 : 1000000 < s.house.width
  · refine if_tt (decide_eq_true (by omega)) (if_tt rfl (yes (by omega)))
  refine if_ff (decide_eq_false (by omega)) ?_
  refine ⟨_, rfl, a, _, rfl, fd_widths T ha, w, _, rfl, .inl (SqL.of hw), _, _, rfl, rfl, .inl ⟨by decide, by decide⟩, _, _, rfl, rfl, _, rfl, ?_⟩
  rw [nvs_len, wN_len]
  by_cases c5 : 256 < s.widths.length
  · refine if_tt (decide_eq_true (by omega)) (if_tt rfl (yes (by omega)))
  refine if_ff (decide_eq_false (by omega)) ?_
  refine ⟨_, rfl, a, _, rfl, fd_cut T ha, t, _, rfl, .inl (SqL.of hc), _, _, rfl, rfl, _, rfl, ?_⟩
  rw [nvs_len]
  by_cases c6 : 64 < s.cut.length
  · refine if_tt (decide_eq_true (by omega)) (yes (by omega))
  refine if_ff (decide_eq_false (by omega)) ?_
  have no : ¬ (s.house.height < 3 ∨ 1000 < s.house.height ∨ 100 < s.house.gap ∨ 1000000 < s.house.width ∨ 256 < s.widths.length ∨ 64 < s.cut.length) := by omega
  unfold refusal at k
  rw [if_neg no] at k
  refine ⟨_, rfl, a, _, rfl, fd_widths T ha, w, s.widths, rfl, SqL.of hw, hwl, _, rfl, ?_⟩
  by_cases c7 : s.widths.any badW = true
  · rw [c7]
    refine if_tt rfl ?_
    rw [if_pos c7] at k
    exact k H (Same.refl H)
  · rw [Bool.not_eq_true] at c7
    rw [c7]
    refine if_ff rfl ?_
    rw [c7, if_neg Bool.false_ne_true] at k
    refine ⟨_, rfl, _, rfl, a, _, rfl, fd_cut T ha, .ref a, t, s, s.cut, rfl, hs, SqL.of hc, hwl, hcl, fun u H1 s1 r1 => ?_⟩
    refine ⟨u, s.cut.map s.of_, rfl, (LsR.mono PrR.mono).up Same.new r1, (by rw [List.length_map]; exact hcl), fun H2 s2 => ?_⟩
    have ha2 := Same.trans s1 s2 _ _ ha
    refine ⟨_, rfl, a, _, rfl, fd_width T ha2, _, _, rfl, rfl, _, rfl, ?_⟩
    have ew : ((s.cut.map s.of_).map (fun p : Nat × Nat => p.1)).sum = s.wide s.cut := by
      unfold IhColumn.Setter.wide
      rw [List.map_map]
      rfl
    rw [ew]
    by_cases c8 : s.house.width < s.wide s.cut
    · refine if_tt (decide_eq_true (by omega)) ?_
      rw [if_pos c8] at k
      exact k _ (Same.trans s1 s2)
    · refine if_ff (decide_eq_false (by omega)) ?_
      rw [if_neg c8] at k
      exact k _ (Same.trans s1 s2)
end HC

/-! # headcolumns: readings, part C: lines of a text -/
namespace HC
open PySem PySem.Spec PyProof.Rows L2
variable {K : PySem.W.Frag} {c : CA}

/-! ## the plain law -/
theorem blank_of (s : She) (x : Nat) : s.blank x = ((s.of_ x).2 == 1) := rfl
theorem halt_snoc (s : She) (t : List Nat) (x : Nat) : s.halt_ (t ++ [x]) = if s.blank x = true then s.halt_ t else t.length + 1 := by
  unfold IhColumn.Setter.halt_
  rw [List.reverse_append, List.length_append]
  show t.length + 1 - (List.takeWhile s.blank (x :: t.reverse)).length = _
  by_cases h : s.blank x = true
  · rw [List.takeWhile_cons_of_pos h, if_pos h]
    have : (List.takeWhile s.blank t.reverse).length ≤ t.length := by
      have := (List.takeWhile_prefix (p := s.blank) (l := t.reverse)).length_le
      rwa [List.length_reverse] at this
    show t.length + 1 - ((List.takeWhile s.blank t.reverse).length + 1) = _
    omega
  · rw [List.takeWhile_cons_of_neg h, if_neg h]
    rfl
theorem halt_le (s : She) (t : List Nat) : s.halt_ t ≤ t.length := Nat.sub_le _ _
def lead (s : She) (t : List Nat) (i : Nat) : Nat := ((t.drop i).takeWhile s.blank).length
theorem drop_get {α : Type} {l : List α} {i : Nat} {x : α} (h : l[i]? = some x) : l.drop i = x :: l.drop (i + 1) := by
  obtain ⟨h1, h2⟩ := List.getElem?_eq_some_iff.mp h
  rw [← h2]
  exact List.drop_eq_getElem_cons h1
theorem lead_yes {s : She} {t : List Nat} {i x : Nat} (h : t[i]? = some x) (b : s.blank x = true) : lead s t i = lead s t (i + 1) + 1 := by
  unfold lead
  rw [drop_get h, List.takeWhile_cons_of_pos b]
  rfl
theorem lead_no {s : She} {t : List Nat} {i x : Nat} (h : t[i]? = some x) (b : ¬ s.blank x = true) : lead s t i = 0 := by
  unfold lead
  rw [drop_get h, List.takeWhile_cons_of_neg b]
  rfl
theorem lead_end (s : She) (t : List Nat) : lead s t t.length = 0 := by
  unfold lead
  rw [List.drop_length]
  rfl
theorem lead_le (s : She) (t : List Nat) (i : Nat) : lead s t i ≤ t.length - i := by
  have := (List.takeWhile_prefix (p := s.blank) (l := t.drop i)).length_le
  rwa [List.length_drop] at this
def hereB (s : She) (e k x : Nat) (l : List Nat) : Bool := k + 1 == e || (match l with
  | y :: _ => (s.blank y && !s.blank x) || (s.of_ x).2 == 2
  | [] => false)
theorem ends_cons {s : She} {e r k x w : Nat} {l : List Nat} {bf lf : Option Nat} : s.endsOn e r (x :: l) k w bf lf = if r < w + (s.of_ x).1 ∨ e ≤ k then best bf lf else s.endsOn e r l (k + 1) (w + (s.of_ x).1) (if hereB s e k x l = true then some (k + 1) else bf) (some (k + 1)) := by
  cases l <;> rfl
theorem brk_here {s : She} {t : List Nat} {e k x : Nat} (h : t[k]? = some x) : brk s t e (k + 1) = hereB s e k x (t.drop (k + 1)) := by
  unfold brk hereB
  rw [show k + 1 - 1 = k from rfl, drop_get h]
  cases t.drop (k + 1) <;> rfl
theorem ends_step {s : She} {e r : Nat} {t : List Nat} {k x : Nat} (h : t[k]? = some x) (hk : k < e) (w : Nat) (bf lf : Option Nat) (hr : ¬ r < w + (s.of_ x).1) :
    s.endsOn e r (t.drop k) k w bf lf = s.endsOn e r (t.drop (k + 1)) (k + 1) (w + (s.of_ x).1) (if brk s t e (k + 1) = true then some (k + 1) else bf) (some (k + 1)) := by
  rw [brk_here h, drop_get h, ends_cons, if_neg (by omega)]
theorem ends_over {s : She} {e r : Nat} {t : List Nat} {k x : Nat} (h : t[k]? = some x) (w : Nat) (bf lf : Option Nat) (hr : r < w + (s.of_ x).1) : s.endsOn e r (t.drop k) k w bf lf = best bf lf := by
  rw [drop_get h]
  show (if r < w + (s.of_ x).1 ∨ e ≤ k then _ else _) = _
  rw [if_pos (.inl hr)]
  rfl
theorem ends_stop {s : She} {e r : Nat} {l : List Nat} {k : Nat} (w : Nat) (bf lf : Option Nat) (h : e ≤ k) : s.endsOn e r l k w bf lf = best bf lf := by
  cases l with
  | nil => rfl
  | cons x l =>
    show (if r < w + (s.of_ x).1 ∨ e ≤ k then _ else _) = _
    rw [if_pos (.inr h)]
    rfl
/-- what is found lies behind where it began, and not behind the end -/
theorem ends_in {s : She} {e r : Nat} (a : Nat) : ∀ (l : List Nat) (k w : Nat) (bf lf : Option Nat), (∀ z, bf = some z → a < z ∧ z ≤ e) → (∀ z, lf = some z → a < z ∧ z ≤ e) → a ≤ k → ∀ z, s.endsOn e r l k w bf lf = some z → a < z ∧ z ≤ e := by
  have b : ∀ (bf lf : Option Nat), (∀ z, bf = some z → a < z ∧ z ≤ e) → (∀ z, lf = some z → a < z ∧ z ≤ e) → ∀ z, (if bf.isSome = true then bf else lf) = some z → a < z ∧ z ≤ e := fun bf lf h1 h2 z q => by
    split at q
    · exact h1 z q
    · exact h2 z q
  intro l
  induction l with
  | nil => exact fun k w bf lf h1 h2 _ z q => b bf lf h1 h2 z q
  | cons x l ih =>
    intro k w bf lf h1 h2 hk z q
    rw [ends_cons] at q
    split at q
    · exact b bf lf h1 h2 z q
    · refine ih (k + 1) _ _ _ (fun z' q' => ?_) (fun z' q' => ?_) (by omega) z q
      · split at q'
        · cases q'; omega
        · exact h1 z' q'
      · cases q'; omega
theorem lines_done {s : She} {d e n a0 : Nat} {t : List Nat} {first : Bool} (h : e ≤ a0 + lead s t a0) : s.linesFrom d e n (t.drop a0) a0 first = some [] := by
  cases n with
  | zero => rfl
  | succ n =>
    show (if e ≤ a0 + lead s t a0 then some [] else _) = _
    rw [if_pos h]
theorem lines_none {s : She} {d e n a0 : Nat} {t : List Nat} {first : Bool} (h : ¬ e ≤ a0 + lead s t a0) (q : s.endsOn e (s.room d first) (t.drop (a0 + lead s t a0)) (a0 + lead s t a0) 0 none none = none) : s.linesFrom d e (n + 1) (t.drop a0) a0 first = none := by
  have e1 : (t.drop a0).drop (lead s t a0) = t.drop (a0 + lead s t a0) := by rw [List.drop_drop]
  show (if e ≤ a0 + lead s t a0 then some [] else match s.endsOn e (s.room d first) ((t.drop a0).drop (lead s t a0)) (a0 + lead s t a0) 0 none none with
    | none => none
    | some b => (s.linesFrom d e n (((t.drop a0).drop (lead s t a0)).drop (b - (a0 + lead s t a0))) b false).map fun (l : List (Nat × Nat)) => (a0 + lead s t a0, b) :: l) = _
  rw [if_neg h, e1, q]
theorem lines_some {s : She} {d e n a0 b : Nat} {t : List Nat} {first : Bool} (h : ¬ e ≤ a0 + lead s t a0) (q : s.endsOn e (s.room d first) (t.drop (a0 + lead s t a0)) (a0 + lead s t a0) 0 none none = some b) :
    s.linesFrom d e (n + 1) (t.drop a0) a0 first = (s.linesFrom d e n (t.drop b) b false).map fun (l : List (Nat × Nat)) => (a0 + lead s t a0, b) :: l := by
  have e1 : (t.drop a0).drop (lead s t a0) = t.drop (a0 + lead s t a0) := by rw [List.drop_drop]
  have hb := ends_in (s := s) (e := e) (r := s.room d first) (a0 + lead s t a0) (t.drop (a0 + lead s t a0)) (a0 + lead s t a0) 0 none none (fun z q => by cases q) (fun z q => by cases q) (Nat.le_refl _) b q
  have e2 : (t.drop (a0 + lead s t a0)).drop (b - (a0 + lead s t a0)) = t.drop b := by
    rw [List.drop_drop]
    congr 1
    omega
  show (if e ≤ a0 + lead s t a0 then some [] else match s.endsOn e (s.room d first) ((t.drop a0).drop (lead s t a0)) (a0 + lead s t a0) 0 none none with
    | none => none
    | some b => (s.linesFrom d e n (((t.drop a0).drop (lead s t a0)).drop (b - (a0 + lead s t a0))) b false).map fun (l : List (Nat × Nat)) => (a0 + lead s t a0, b) :: l) = _
  rw [if_neg h, e1, q]
  show (s.linesFrom d e n ((t.drop (a0 + lead s t a0)).drop (b - (a0 + lead s t a0))) b false).map _ = _
  rw [e2]

/-! ## helps -/
theorem dec_nv {a b : Nat} : decide (nv a = nv b) = (a == b) := by
  unfold nv
  rw [dec_int]
  by_cases h : a = b
  · subst h; simp
  · have h2 : ¬ (a : Int) = (b : Int) := by omega
    rw [beq_eq_false_iff_ne.mpr h2, beq_eq_false_iff_ne.mpr h]
theorem of_get {s : She} {t : List Nat} {i n : Nat} (h : t[i]? = some n) : (t.map s.of_)[i]? = some (s.of_ n) := by
  rw [List.getElem?_map, h]
  rfl
theorem ix_tup2 {a b : Nat} : atI [nv a, nv b] 1 = some (nv b) := at_of (j := 1) rfl rfl
theorem ix_tup1 {a b : Nat} : atI [nv a, nv b] 0 = some (nv a) := at_of (j := 0) rfl rfl

/-! ## text_end -/
theorem p_text_end (T : Kf K c) {vs : List V} {H : Hp} {Q : VK} {E : XK} (h : sp_text_end K c vs H Q E) : t_text_end K c { nx := fun _ H' => Q .non H', rt := Q } (start N_text_end vs) H := by
  obtain ⟨v, s, t, rfl, ⟨l, us, rfl, hl, el, hr⟩, k⟩ := h
  rw [List.length_map] at el
  refine ⟨_, rfl, l, us, rfl, SqL.of hl, for_enum (K := K) (a := l) (xs := us) (fun i σ H' => Same H H' ∧ ∃ o1 o2, σ = [some (.ref l), some (nv (s.halt_ (t.take i))), o1, o2]) ⟨Same.refl H, none, none, rfl⟩ (fun i σ H' _ q => SqL.of (q.1 _ _ hl)) ?_ ?_⟩
  · rintro i u σ H' x hu ⟨s1, o1, o2, rfl⟩ nx
    obtain ⟨n, hn⟩ := get_of_lt (l := t) (i := i) (by rw [← el]; exact (List.getElem?_eq_some_iff.mp hu).1)
    obtain ⟨y, rfl, hy⟩ := hr i u (s.of_ n) hu (of_get hn)
    have s2 : Same H (upd H' x (.tup [.int (i : Nat), .ref y])) := Same.trans s1 (Same.newUpd nx)
    refine ⟨x, _, rfl, SqT.of upd_same, rfl, _, _, rfl, _, _, rfl, rfl, ?_⟩
    refine ⟨_, rfl, y, _, _, _, rfl, rfl, SqT.of (s2 _ _ hy), ix_tup2, rfl, _, rfl, ?_⟩
    have tk : s.halt_ (t.take (i + 1)) = if s.blank n = true then s.halt_ (t.take i) else i + 1 := by
      rw [take_more hn, halt_snoc, List.length_take, Nat.min_eq_left (Nat.le_of_lt (List.getElem?_eq_some_iff.mp hn).1)]
    rw [show (V.int 1) = nv 1 from rfl, dec_nv]
    by_cases hb : s.blank n = true
    · have hb' : ((s.of_ n).2 == 1) = true := hb
      rw [hb']
      refine if_ff rfl ?_
      rw [if_pos hb] at tk
      exact ⟨s2, _, _, by rw [tk]; rfl⟩
    · have hb' : ((s.of_ n).2 == 1) = false := by rw [← blank_of]; simpa using hb
      rw [hb']
      refine if_tt rfl ?_
      rw [if_neg hb] at tk
      exact ⟨_, rfl, _, _, rfl, rfl, s2, _, _, by rw [tk]; rfl⟩
  · rintro σ H' ⟨s1, o1, o2, rfl⟩
    rw [el, List.take_length]
    exact ⟨_, rfl, k _ s1⟩

/-! ## line_begin -/
theorem p_line_begin (T : Kf K c) {vs : List V} {H : Hp} {Q : VK} {E : XK} (h : sp_line_begin K c vs H Q E) : t_line_begin K c { nx := fun _ H' => Q .non H', rt := Q } (start N_line_begin vs) H := by
  obtain ⟨v, s, t, i, rfl, ⟨l, us, rfl, hl, el, hr⟩, ht, hi, k⟩ := h
  rw [List.length_map] at el
  have k : Q (nv (i + lead s t i)) H := k
  refine ⟨_, rfl, _, rfl, l, _, rfl, .inl (SqL.of hl), _, _, rfl, ⟨by omega, by omega, by omega, by omega⟩, for_range (fun j σ H' => H' = H ∧ i + j ≤ t.length ∧ lead s t i = j + lead s t (i + j) ∧ ∃ o, σ = [some (.ref l), some (nv i), o]) ⟨rfl, hi, by simp, none, rfl⟩ ?_ ?_⟩
  · rintro j σ H' hj ⟨rfl, _, hd, o, rfl⟩
    obtain ⟨n, hn⟩ := get_of_lt (l := t) (i := i + j) (by omega)
    obtain ⟨u, hu⟩ := get_len (vs := us) (xs := t) el hn
    obtain ⟨y, rfl, hy⟩ := hr (i + j) u (s.of_ n) hu (of_get hn)
    refine ⟨_, rfl, _, rfl, l, us, _, _, rfl, rfl, SqL.of hl, at_of (j := i + j) (by omega) hu, y, _, _, _, rfl, rfl, SqT.of hy, ix_tup2, rfl, _, rfl, ?_⟩
    rw [show (V.int 1) = nv 1 from rfl, dec_nv]
    by_cases hb : s.blank n = true
    · have hb' : ((s.of_ n).2 == 1) = true := hb
      rw [hb']
      refine if_ff rfl ?_
      exact ⟨rfl, by omega, by rw [hd, lead_yes hn hb]; show _ = j + 1 + lead s t (i + j + 1); omega, _, rfl⟩
    · have hb' : ((s.of_ n).2 == 1) = false := by rw [← blank_of]; simpa using hb
      rw [hb']
      refine if_tt rfl ⟨_, rfl, ?_⟩
      rw [hd, lead_no hn hb] at k
      have e : V.int ((i : Int) + (j : Nat)) = nv (i + (j + 0)) := by
        unfold nv
        congr 1
      rw [e]
      exact k
  · rintro σ H' ⟨rfl, hle, hd, o, rfl⟩
    refine ⟨_, rfl, l, _, rfl, .inl (SqL.of hl), ?_⟩
    have e2 : i + ((us.length : Int) - (i : Int)).toNat = t.length := by omega
    rw [hd, e2, lead_end] at k
    rw [show us.length = i + (((us.length : Int) - (i : Int)).toNat + 0) by omega]
    exact k

/-! ## is_break -/
theorem p_is_break (T : Kf K c) {vs : List V} {H : Hp} {Q : VK} {E : XK} (h : sp_is_break K c vs H Q E) : t_is_break K c { nx := fun _ H' => Q .non H', rt := Q } (start N_is_break vs) H := by
  obtain ⟨v, s, t, e, p, rfl, ⟨l, us, rfl, hl, el, hr⟩, p1, pe, et, k⟩ := h
  rw [List.length_map] at el
  refine ⟨_, rfl, _, rfl, rfl, _, rfl, ?_⟩
  rw [dec_nv]
  by_cases hp : p = e
  · have hb : (p == e) = true := by simp [hp]
    unfold brk at k
    rw [hb, Bool.true_or] at k
    rw [hb]
    exact if_tt rfl (if_tt rfl k)
  · have hb : (p == e) = false := by simp [hp]
    rw [hb]
    refine if_ff rfl ?_
    obtain ⟨x, hx⟩ := get_of_lt (l := t) (i := p - 1) (by omega)
    obtain ⟨y, hy⟩ := get_of_lt (l := t) (i := p) (by omega)
    obtain ⟨u, hu⟩ := get_len (vs := us) (xs := t) el hx
    obtain ⟨u2, hu2⟩ := get_len (vs := us) (xs := t) el hy
    obtain ⟨a, rfl, ha⟩ := hr (p - 1) u (s.of_ x) hu (of_get hx)
    obtain ⟨b, rfl, hb2⟩ := hr p u2 (s.of_ y) hu2 (of_get hy)
    have ek : brk s t e p = ((s.blank y && !s.blank x) || (s.of_ x).2 == 2) := by
      unfold brk
      rw [hb, Bool.false_or, drop_get hx, show p - 1 + 1 = p by omega, drop_get hy]
    rw [ek] at k
    refine ⟨_, rfl, _, rfl, _, _, rfl, rfl, l, us, _, _, rfl, rfl, SqL.of hl, at_of (j := p - 1) (by omega) hu, a, _, _, _, rfl, rfl, SqT.of ha, ix_tup2, rfl, _, rfl, ?_⟩
    rw [show (V.int 2) = nv 2 from rfl, dec_nv]
    cases h2 : (s.of_ x).2 == 2 with
    | true =>
      rw [h2, Bool.or_true] at k
      exact if_tt rfl k
    | false =>
      rw [h2, Bool.or_false] at k
      refine if_ff rfl ?_
      refine ⟨_, rfl, _, rfl, l, us, _, _, rfl, rfl, SqL.of hl, at_of (j := p) rfl hu2, b, _, _, _, rfl, rfl, SqT.of hb2, ix_tup2, rfl, _, rfl, ?_⟩
      rw [show (V.int 1) = nv 1 from rfl, dec_nv, ← blank_of]
      cases h3 : s.blank y with
      | false =>
        rw [h3, Bool.false_and] at k
        exact if_ff rfl k
      | true =>
        rw [h3, Bool.true_and] at k
        refine if_tt rfl ?_
        refine ⟨_, rfl, _, rfl, _, _, rfl, rfl, l, us, _, _, rfl, rfl, SqL.of hl, at_of (j := p - 1) (by omega) hu, a, _, _, _, rfl, rfl, SqT.of ha, ix_tup2, rfl, ?_⟩
        have ez : (!decide (nv (s.of_ x).2 = V.int 1)) = !s.blank x := by rw [show (V.int 1) = nv 1 from rfl, dec_nv, ← blank_of]
        rw [← ez] at k
        exact k

/-! ## best_or -/
theorem p_best_or (T : Kf K c) {vs : List V} {H : Hp} {Q : VK} {E : XK} (h : sp_best_or K c vs H Q E) : t_best_or K c { nx := fun _ H' => Q .non H', rt := Q } (start N_best_or vs) H := by
  obtain ⟨b, l, rfl, k⟩ := h
  refine ⟨_, rfl, rfl, _, rfl, ?_⟩
  cases b with
  | none => exact if_tt rfl ⟨_, rfl, k⟩
  | some n => exact if_ff rfl ⟨_, rfl, k⟩

/-! ## line_end -/
theorem p_line_end (T : Kf K c) {vs : List V} {H : Hp} {Q : VK} {E : XK} (h : sp_line_end K c vs H Q E) : t_line_end K c (sp_best_or K c) (sp_is_break K c) { nx := fun _ H' => Q .non H', rt := Q } (start N_line_end vs) H := by
  obtain ⟨v, s, t, e, b, r, rfl, hs, ht, hbe, het, k⟩ := h
  obtain ⟨l, us, rfl, hl, el, hr⟩ := id hs
  rw [List.length_map] at el
  refine ⟨_, rfl, _, _, rfl, rfl, _, rfl, _, _, rfl, rfl, _, _, rfl, ⟨by omega, by omega, by omega, by omega⟩, for_range (fun j σ H' => H' = H ∧ b + j ≤ e ∧ ∃ (w : Nat) (bf lf : Option Nat) (o : Option V), σ = [some (.ref l), some (nv e), some (nv b), some (nv r), some (nv w), some (ov lf), some (ov bf), o] ∧
    s.endsOn e r (t.drop b) b 0 none none = s.endsOn e r (t.drop (b + j)) (b + j) w bf lf) ⟨rfl, hbe, 0, none, none, none, rfl, rfl⟩ ?_ ?_⟩
  · rintro j σ H' hj ⟨rfl, _, w, bf, lf, o, rfl, hd⟩
    have hj2 : b + j < e := by omega
    obtain ⟨n, hn⟩ := get_of_lt (l := t) (i := b + j) (by omega)
    obtain ⟨u, hu⟩ := get_len (vs := us) (xs := t) el hn
    obtain ⟨y, rfl, hy⟩ := hr (b + j) u (s.of_ n) hu (of_get hn)
    refine ⟨_, rfl, _, rfl, _, rfl, _, _, rfl, rfl, l, us, _, _, rfl, rfl, SqL.of hl, at_of (j := b + j) (by omega) hu, y, _, _, _, rfl, rfl, SqT.of hy, ix_tup1, _, _, rfl, rfl, ?_⟩
    refine ⟨_, rfl, _, rfl, _, _, rfl, rfl, _, rfl, ?_⟩
    by_cases hr2 : r < w + (s.of_ n).1
    · refine if_tt (decide_eq_true (by omega)) ?_
      rw [hd, ends_over hn w bf lf hr2] at k
      exact ⟨_, rfl, _, rfl, bf, lf, rfl, k⟩
    · refine if_ff (decide_eq_false (by omega)) ?_
      rw [ends_step hn hj2 w bf lf hr2] at hd
      have ej : V.int ((b : Int) + 1 + (j : Nat)) = nv (b + j + 1) := by
        unfold nv
        congr 1
        omega
      refine ⟨_, rfl, ?_⟩
      refine ⟨_, rfl, _, rfl, _, rfl, .ref l, s, t, e, b + j + 1, ?_, hs, by omega, by omega, het, _, rfl, ?_⟩
      · rw [ej]
        rfl
      · cases h2 : brk s t e (b + j + 1) with
        | true =>
          rw [h2, if_pos rfl] at hd
          refine if_tt rfl ⟨_, rfl, rfl, by omega, w + (s.of_ n).1, some (b + j + 1), some (b + j + 1), some (nv (b + j + 1)), ?_, hd⟩
          rw [ej]
          rfl
        | false =>
          rw [h2, if_neg Bool.false_ne_true] at hd
          refine if_ff rfl ⟨rfl, by omega, w + (s.of_ n).1, bf, some (b + j + 1), some (nv (b + j + 1)), ?_, hd⟩
          rw [ej]
          rfl
  · rintro σ H' ⟨rfl, hle, w, bf, lf, o, rfl, hd⟩
    have ee : e ≤ b + (((e : Int) + 1) - ((b : Int) + 1)).toNat := by omega
    rw [hd, ends_stop w bf lf ee] at k
    exact ⟨_, rfl, _, rfl, bf, lf, rfl, k⟩
end HC

/-! # headcolumns: readings, part C2: text_lines -/
namespace HC
open PySem PySem.Spec PyProof.Rows L2
variable {K : PySem.W.Frag} {c : CA}
def prD (q : Nat × Nat) : PyData := .tuple [.int q.1, .int q.2]
theorem eqv_nil (ds : List PyData) : PyData.eqv (.list ds) (.list []) = ds.isEmpty := by
  cases ds <;> simp only [PyData.eqv, PyData.eqvAll, List.isEmpty]
theorem lay_prs : ∀ acc : List (Nat × Nat), PyData.canLayAll0 (acc.map prD) = true
  | [] => by simp only [List.map_nil, PyData.canLayAll0]
  | a :: r => by
    rw [List.map_cons]
    unfold PyData.canLayAll0
    rw [lay_prs r]
    unfold prD
    simp only [PyData.canLay0, PyData.canLayAll0, Bool.and_self]
theorem depth_prs : ∀ acc : List (Nat × Nat), PyData.depthAll (acc.map prD) ≤ 1
  | [] => by simp only [List.map_nil, PyData.depthAll, Nat.zero_le]
  | a :: r => by
    have ih := depth_prs r
    rw [List.map_cons]
    unfold PyData.depthAll
    unfold prD
    simp only [PyData.depth, PyData.depthAll]
    exact Nat.max_le.mpr ⟨by decide, ih⟩
theorem shaped_prs (acc : List (Nat × Nat)) : SeqAt.shaped (.list (acc.map prD)) = true := by
  unfold SeqAt.shaped
  have h1 : PyData.canLay0 (.list (acc.map prD)) = true := by
    unfold PyData.canLay0
    exact lay_prs acc
  have h2 : PyData.depth (.list (acc.map prD)) ≤ 64 := by
    have := depth_prs acc
    unfold PyData.depth
    omega
  rw [h1, Bool.true_and]
  exact decide_eq_true h2
theorem dp_all {H : Hp} : ∀ (us : List V) (acc : List (Nat × Nat)), us.length = acc.length → (∀ (i : Nat) (u : V) (x : Nat × Nat), us[i]? = some u → acc[i]? = some x → PrR H u x) → DpAll K H us (acc.map prD)
  | [], [], _, _ => .nil
  | [], _ :: _, e, _ => by cases e
  | _ :: _, [], e, _ => by cases e
  | u :: us, a :: acc, e, h => by
    obtain ⟨t, rfl, q⟩ := h 0 u a rfl rfl
    exact .cons (.tup (SqT.of q) (.cons (.int _) (.cons (.int _) .nil))) (dp_all us acc (Nat.succ.inj e) fun i u x h1 h2 => h (i + 1) u x h1 h2)
theorem p_text_lines (T : Kf K c) {vs : List V} {H : Hp} {Q : VK} {E : XK} (h : sp_text_lines K c vs H Q E) : t_text_lines K c (sp_text_end K c) (sp_line_begin K c) (sp_line_end K c) (sp_room_of K c) { nx := fun _ H' => Q .non H', rt := Q } (start N_text_lines vs) H := by
  obtain ⟨v, vg, s, d, t, rfl, hs, d1, d3, hg, ht, k⟩ := h
  have pm := LsR.mono PrR.mono
  refine ⟨by show 0 ≤ sizeLine; decide, fun l nl => ?_⟩
  have s0 : Same H (upd H l (.lst [])) := Same.newUpd nl
  refine ⟨_, rfl, vg, s, t, rfl, pm.up s0 hg, fun H1 s1 => ?_⟩
  refine ⟨_, rfl, vg, s, t, 0, rfl, pm.up (Same.trans s0 s1) hg, ht, Nat.zero_le _, ?_⟩
  have g1 : Grow PrR H H1 l [] := Grow.same PrR.mono s1 (Grow.nil nl upd_same)
  have s01 := Same.trans s0 s1
  refine ⟨fun m σ H' => ∃ (a0 n : Nat) (acc : List (Nat × Nat)) (o : Option V), m = t.length - a0 ∧ σ = [some v, some (nv d), some vg, some (.ref l), some (nv (s.halt_ t)), some (nv (a0 + lead s t a0)), o] ∧ Same H H' ∧ Grow PrR H H' l acc ∧ a0 ≤ t.length ∧ t.length + 1 ≤ n + a0 ∧ acc.length ≤ a0 ∧
    s.linesFrom d (s.halt_ t) (t.length + 1) t 0 true = (s.linesFrom d (s.halt_ t) n (t.drop a0) a0 acc.isEmpty).map (fun (r : List (Nat × Nat)) => acc ++ r), ⟨_, 0, t.length + 1, [], none, rfl, rfl, s01, g1, Nat.zero_le _, Nat.le_refl _, Nat.le_refl _, ?_⟩, ?_⟩
  · show _ = Option.map _ (s.linesFrom d (s.halt_ t) (t.length + 1) t 0 true)
    simp
  · rintro m σ H' ⟨a0, n, acc, o, rfl, rfl, s2, g2, ha0, hn, hacc, hk⟩
    refine ⟨_, rfl, _, rfl, _, _, rfl, rfl, _, rfl, ?_⟩
    by_cases hlt : a0 + lead s t a0 < s.halt_ t
    · refine if_tt (decide_eq_true (by omega)) ⟨_, fun _ _ h => h, ?_⟩
      obtain ⟨n', rfl⟩ : ∃ n', n = n' + 1 := ⟨n - 1, by omega⟩
      have hle := halt_le s t
      obtain ⟨_, us, hl2, el2, hr2⟩ := id g2
      have items : ∀ (i : Nat) (u : V) (x : Nat × Nat), us[i]? = some u → acc[i]? = some x → PrR H' u x := fun i u x q1 q2 => PrR.mono.up (Same.trans Same.hide Same.new) (hr2 i u x q1 q2)
      refine ⟨_, rfl, _, rfl, _, rfl, _, rfl, _, rfl, _, rfl, by show 0 ≤ sizeLine; decide, fun p np => ?_⟩
      have s3 : Same H' (upd H' p (.lst [])) := Same.newUpd np
      refine ⟨.list (acc.map prD), .list [], .lst (SqL.of (s3 _ _ hl2)) (dp_all us acc el2 fun i u x q1 q2 => PrR.mono.up s3 (items i u x q1 q2)), .lst (SqL.of upd_same) .nil, shaped_prs acc, rfl, v, s, d, acc.isEmpty, ?_, SheR.mono.up (Same.trans s2 s3) hs, d1, d3, ?_⟩
      · rw [eqv_nil, List.isEmpty_map]
        rfl
      have s23 := Same.trans s2 s3
      have g3 := Grow.same PrR.mono s3 g2
      refine ⟨vg, s, t, s.halt_ t, a0 + lead s t a0, s.room d acc.isEmpty, rfl, pm.up s23 hg, ht, Nat.le_of_lt hlt, hle, ?_⟩
      refine ⟨_, rfl, rfl, _, rfl, ?_⟩
      cases hq : s.endsOn (s.halt_ t) (s.room d acc.isEmpty) (t.drop (a0 + lead s t a0)) (a0 + lead s t a0) 0 none none with
      | none =>
        refine if_tt rfl ?_
        rw [lines_none (by omega) hq] at hk
        refine k _ _ s23 ?_
        rw [hk]
        rfl
      | some b =>
        refine if_ff rfl ?_
        obtain ⟨b1, b2⟩ := ends_in (s := s) (e := s.halt_ t) (r := s.room d acc.isEmpty) (a0 + lead s t a0) (t.drop (a0 + lead s t a0)) (a0 + lead s t a0) 0 none none (fun z q => by cases q) (fun z q => by cases q) (Nat.le_refl _) b hq
        rw [lines_some (by omega) hq] at hk
        obtain ⟨_, us3, hl3, el3, _⟩ := id g3
        refine ⟨_, rfl, .inl ⟨rfl, _, SqL.of hl3⟩, _, rfl, _, rfl, by show 2 ≤ sizeLine; decide, fun q nq => ?_⟩
        have s4 : Same (upd H' p (.lst [])) (upd (upd H' p (.lst [])) q (.tup [nv (a0 + lead s t a0), nv b])) := Same.newUpd nq
        have g4 := Grow.same PrR.mono s4 g3
        have s24 := Same.trans s23 s4
        have hl4 := s4 _ _ hl3
        refine ⟨l, us3, _, rfl, rfl, hl4, ?_, ?_⟩
        · rw [el3]
          exact Nat.lt_of_le_of_lt (Nat.le_trans hacc (Nat.le_trans ha0 ht)) (by decide)
        · have nqH : H q = none := Same.free s23 nq
          have g5 : Grow PrR H (upd (upd (upd H' p (.lst [])) q (.tup [nv (a0 + lead s t a0), nv b])) l (.lst (us3 ++ [.ref q]))) l (acc ++ [(a0 + lead s t a0, b)]) :=
            Grow.push PrR.mono g4 hl4 ⟨q, rfl, hide_some.mpr ⟨(ne_of_none hl3 nq).symm, new_some.mpr ⟨nqH, upd_same⟩⟩⟩
          have s5 : Same H (upd (upd (upd H' p (.lst [])) q (.tup [nv (a0 + lead s t a0), nv b])) l (.lst (us3 ++ [.ref q]))) := Same.mut s24 nl
          refine ⟨_, rfl, _, rfl, vg, s, t, b, rfl, pm.up s5 hg, ht, by omega, ?_⟩
          refine ⟨t.length - b, by omega, b, n', acc ++ [(a0 + lead s t a0, b)], _, rfl, rfl, s5, g5, by omega, by omega, ?_, ?_⟩
          · rw [List.length_append]
            show acc.length + 1 ≤ b
            omega
          · rw [hk, Option.map_map]
            have e1 : (acc ++ [(a0 + lead s t a0, b)]).isEmpty = false := by cases acc <;> rfl
            rw [e1]
            congr 1
            funext r
            show acc ++ (a0 + lead s t a0, b) :: r = acc ++ [(a0 + lead s t a0, b)] ++ r
            rw [List.append_assoc]
            rfl
    · refine if_ff (decide_eq_false (by omega)) ?_
      rw [lines_done (by omega)] at hk
      refine ⟨_, rfl, k _ _ s2 ?_⟩
      rw [hk]
      show LsR PrR _ _ (acc ++ [])
      rw [List.append_nil]
      exact Grow.done PrR.mono g2
end HC

/-! # headcolumns: readings, part D: paragraphs -/
namespace HC
open PySem PySem.Spec PyProof.Rows L2
variable {K : PySem.W.Frag} {c : CA}
theorem cut_from {xs : List V} {a : Nat} {lo : Option Int} (hl : lo = some (a : Int)) (ha : a ≤ xs.length) : cutV xs lo none = xs.drop a := by
  subst hl
  unfold cutV
  rw [HT.sIx_nat, HT.sIx_none, Nat.min_eq_left ha]
  exact List.take_of_length_le (by rw [List.length_drop]; exact Nat.le_refl _)
theorem p_Paragraph_init (T : Kf K c) {vs : List V} {H : Hp} {Q : VK} {E : XK} (h : sp_Paragraph_init K c vs H Q E) : t_Paragraph_init K c { nx := fun _ H' => Q .non H', rt := Q } (start N_Paragraph_init vs) H := by
  obtain ⟨p, dx, an, d, g, l, t, rfl, hp, hn, k⟩ := h
  refine ⟨_, rfl, an, _, _, _, rfl, rfl, hn, at_nvs (i := 0) rfl rfl, k_fld [("depth", nv d)] rfl hp T.clpa T.ndepth (by simp) rfl fun H1 h1 s1 => ?_⟩
  have hn1 := sq_but hn hp s1
  refine ⟨_, rfl, an, _, _, _, rfl, rfl, hn1, at_nvs (i := 1) rfl rfl, k_fld [("depth", nv d), ("group", nv g)] rfl h1 T.clpa T.ngroup (by simp) (put_new ["depth"] rfl (by decide +kernel)) fun H2 h2 s2 => ?_⟩
  have t2 := Same.but s1 s2
  have hn2 := sq_but hn1 h1 s2
  refine ⟨_, rfl, an, _, _, _, rfl, rfl, hn2, at_nvs (i := 2) rfl rfl, k_fld [("depth", nv d), ("group", nv g), ("lead", nv l)] rfl h2 T.clpa T.nlead (by simp) (put_new ["depth", "group"] rfl (by decide +kernel)) fun H3 h3 s3 => ?_⟩
  have t3 := Same.but t2 s3
  have hn3 := sq_but hn2 h2 s3
  refine ⟨_, rfl, _, rfl, an, _, rfl, hn3, fun q1 hq1 => ⟨q1, _, rfl, .inl (SqL.of upd_same), fun q2 hq2 => ?_⟩⟩
  rw [show cutV (nvs (d :: g :: l :: t)) (some 3) none = nvs t from cut_from (a := 3) rfl (by rw [nvs_len]; simp)]
  have hq2' : H3 q2 = none := Same.free (Same.newUpd hq1) hq2
  have u2 : Same H3 (upd (upd H3 q1 (.lst (nvs t))) q2 (.lst (nvs t))) := Same.trans (Same.newUpd hq1) (Same.newUpd (by
    have e : cutV (nvs (d :: g :: l :: t)) (some 3) none = nvs t := cut_from (a := 3) rfl (by rw [nvs_len]; simp)
    rw [e] at hq2
    exact hq2))
  refine k_fld [("depth", nv d), ("group", nv g), ("lead", nv l), ("text", .ref q2)] rfl (u2 _ _ h3) T.clpa T.ntext (by simp) (put_new ["depth", "group", "lead"] rfl (by decide +kernel)) fun H4 h4 s4 => ?_
  have t4 : Same (Hide H p) H4 := fun b o q => s4 b o (hide_some.mpr ⟨(hide_some.mp q).1, u2 b o (t3 b o q)⟩)
  have q2p : q2 ≠ p := (ne_of_none h3 hq2').symm
  have i4 := s4 q2 _ (hide_some.mpr ⟨q2p, upd_same⟩)
  exact k H4 t4 ⟨p, dx, q2, rfl, new_some.mpr ⟨hide_self, h4⟩, new_some.mpr ⟨Same.free t3 hq2', i4⟩⟩

theorem p_is_right (T : Kf K c) {vs : List V} {H : Hp} {Q : VK} {E : XK} (h : sp_is_right K c vs H Q E) : t_is_right K c { nx := fun _ H' => Q .non H', rt := Q } (start N_is_right vs) H := by
  obtain ⟨v, p, b, rfl, ⟨a, dx, x, rfl, ha, hx⟩, k⟩ := h
  have yes : wrongP b p → Q (.bl false) H := fun q => by
    rw [decide_eq_true q] at k
    exact k
  refine ⟨_, rfl, a, _, rfl, fd_depth T ha, _, _, rfl, rfl, _, rfl, ?_⟩
  by_cases c1 : p.depth = 0
  · exact if_tt (decide_eq_true (by omega)) (if_tt rfl (yes (.inl c1)))
  refine if_ff (decide_eq_false (by omega)) ?_
  refine ⟨_, rfl, a, _, rfl, fd_depth T ha, _, _, rfl, rfl, _, rfl, ?_⟩
  by_cases c2 : 3 < p.depth
  · exact if_tt (decide_eq_true (by omega)) (if_tt rfl (yes (.inr (.inl c2))))
  refine if_ff (decide_eq_false (by omega)) ?_
  refine ⟨_, rfl, a, _, rfl, fd_depth T ha, _, rfl, _, _, rfl, rfl, _, _, rfl, rfl, _, rfl, ?_⟩
  by_cases c3 : b + 1 < p.depth
  · exact if_tt (decide_eq_true (by omega)) (yes (.inr (.inr (.inl c3))))
  refine if_ff (decide_eq_false (by omega)) ?_
  refine ⟨_, rfl, a, _, rfl, fd_text T ha, x, _, rfl, .inl (SqL.of hx), _, _, rfl, rfl, _, rfl, ?_⟩
  rw [nvs_len]
  by_cases c4 : p.text = []
  · exact if_tt (decide_eq_true (by rw [c4]; decide)) (if_tt rfl (yes (.inr (.inr (.inr (.inl c4))))))
  have c4' : 0 < List.length p.text := List.length_pos_iff.mpr c4
  refine if_ff (decide_eq_false (by omega)) ?_
  refine ⟨_, rfl, a, _, rfl, fd_text T ha, x, _, rfl, .inl (SqL.of hx), _, _, rfl, rfl, _, rfl, ?_⟩
  rw [nvs_len]
  by_cases c5 : IhColumns.PARTEXT < List.length p.text
  · have c5' : 65535 < List.length p.text := c5
    exact if_tt (decide_eq_true (by omega)) (yes (.inr (.inr (.inr (.inr (.inl c5))))))
  have c5' : ¬ 65535 < List.length p.text := c5
  refine if_ff (decide_eq_false (by omega)) ?_
  refine ⟨_, rfl, a, _, rfl, fd_lead T ha, _, _, rfl, rfl, _, rfl, ?_⟩
  by_cases c6 : p.lead = 0
  · exact if_ff (decide_eq_false (by omega)) (yes (.inr (.inr (.inr (.inr (.inr (.inl c6)))))))
  refine if_tt (decide_eq_true (by omega)) ?_
  refine ⟨_, rfl, a, _, rfl, fd_text T ha, x, _, rfl, .inl (SqL.of hx), _, _, rfl, rfl, ?_⟩
  rw [nvs_len]
  show Q (V.bl (decide ((p.lead : Int) ≤ (List.length p.text : Int)))) H
  by_cases c7 : List.length p.text < p.lead
  · rw [decide_eq_false (by omega)]
    exact yes (.inr (.inr (.inr (.inr (.inr (.inr c7))))))
  · have no : ¬ wrongP b p := by
      rintro (q | q | q | q | q | q | q)
      · exact c1 q
      · exact c2 q
      · exact c3 q
      · exact c4 q
      · exact c5 q
      · exact c6 q
      · exact c7 q
    rw [decide_eq_true (by omega)]
    rw [decide_eq_false no] at k
    exact k

theorem wrong_cons {i d : Nat} {p : Par} {l : List Par} : IhColumns.wrong i d (p :: l) = if wrongP d p then some i else IhColumns.wrong (i + 1) p.depth l := by
  by_cases h : wrongP d p
  · rw [if_pos h]
    exact if_pos h
  · rw [if_neg h]
    exact if_neg h
theorem p_first_wrong (T : Kf K c) {vs : List V} {H : Hp} {Q : VK} {E : XK} (h : sp_first_wrong K c vs H Q E) : t_first_wrong K c (sp_is_right K c) { nx := fun _ H' => Q .non H', rt := Q } (start N_first_wrong vs) H := by
  obtain ⟨v, ps, rfl, ⟨l, us, rfl, hl, el, hr⟩, k⟩ := h
  refine ⟨_, rfl, l, us, rfl, SqL.of hl, for_enum (K := K) (a := l) (xs := us) (fun i σ H' => Same H H' ∧ ∃ (b : Nat) (o1 o2 : Option V), σ = [some (.ref l), some (nv b), o1, o2] ∧ IhColumns.wrong 0 0 ps = IhColumns.wrong i b (ps.drop i)) ⟨Same.refl H, 0, none, none, rfl, rfl⟩ (fun i σ H' _ q => SqL.of (q.1 _ _ hl)) ?_ ?_⟩
  · rintro i u σ H' x hu ⟨s1, b, o1, o2, rfl, hw⟩ nx
    obtain ⟨p, hp⟩ := get_of_lt (l := ps) (i := i) (by rw [← el]; exact (List.getElem?_eq_some_iff.mp hu).1)
    have s2 : Same H (upd H' x (.tup [.int (i : Nat), u])) := Same.trans s1 (Same.newUpd nx)
    have rp := ParR.mono.up s2 (hr i u p hu hp)
    obtain ⟨a, dx, y, rfl, ha, hy⟩ := id rp
    rw [drop_get hp, wrong_cons] at hw
    refine ⟨x, _, rfl, SqT.of upd_same, rfl, _, _, rfl, _, _, rfl, rfl, ?_⟩
    refine ⟨_, rfl, _, rfl, .ref a, p, b, rfl, rp, _, rfl, ?_⟩
    by_cases c1 : wrongP b p
    · rw [if_pos c1] at hw
      refine if_tt (by rw [decide_eq_true c1]; rfl) ⟨_, rfl, ?_⟩
      have := k _ s2
      rw [hw] at this
      exact this
    · rw [if_neg c1] at hw
      refine if_ff (by rw [decide_eq_false c1]; rfl) ?_
      exact ⟨_, rfl, a, _, rfl, fd_depth T ha, s2, p.depth, _, _, rfl, hw⟩
  · rintro σ H' ⟨s1, b, o1, o2, rfl, hw⟩
    rw [el, List.drop_length] at hw
    have := k _ s1
    rw [hw] at this
    exact this

theorem p_are_blanks (T : Kf K c) {vs : List V} {H : Hp} {Q : VK} {E : XK} (h : sp_are_blanks K c vs H Q E) : t_are_blanks K c { nx := fun _ H' => Q .non H', rt := Q } (start N_are_blanks vs) H := by
  obtain ⟨v, s, t, rfl, ⟨l, us, rfl, hl, el, hr⟩, k⟩ := h
  rw [List.length_map] at el
  refine ⟨_, rfl, l, rfl, ⟨_, SqL.of hl⟩, for_list (K := K) (a := l) (xs := us) (fun i σ H' => H' = H ∧ (∃ o, σ = [some (.ref l), o]) ∧ (t.take i).all s.blank = true) ⟨rfl, ⟨none, rfl⟩, rfl⟩ (fun i σ H' _ q => by rw [q.1]; exact SqL.of hl) ?_ ?_⟩
  · rintro i u σ H' hu ⟨rfl, ⟨o, rfl⟩, ha⟩
    obtain ⟨n, hn⟩ := get_of_lt (l := t) (i := i) (by rw [← el]; exact (List.getElem?_eq_some_iff.mp hu).1)
    obtain ⟨y, rfl, hy⟩ := hr i u (s.of_ n) hu (of_get hn)
    refine ⟨_, rfl, y, _, _, _, rfl, rfl, SqT.of hy, ix_tup2, rfl, _, rfl, ?_⟩
    rw [show (V.int 1) = nv 1 from rfl, dec_nv, ← blank_of]
    cases hb : s.blank n with
    | true =>
      refine if_ff rfl ⟨rfl, ⟨_, rfl⟩, ?_⟩
      rw [take_more hn, List.all_append, ha]
      simp [hb]
    | false =>
      refine if_tt rfl ?_
      have e : t.all s.blank = false := by
        rw [List.all_eq_false]
        exact ⟨n, List.mem_of_getElem? hn, by simp [hb]⟩
      rw [e] at k
      exact k
  · rintro σ H' ⟨rfl, ⟨o, rfl⟩, ha⟩
    rw [el, List.take_length] at ha
    rw [ha] at k
    exact k

theorem fidx_hit {α : Type} {p : α → Bool} : ∀ {l : List α} {i : Nat} {x : α}, (l.take i).findIdx? p = none → l[i]? = some x → p x = true → l.findIdx? p = some i
  | [], i, x, _, h, _ => by simp at h
  | a :: l, 0, x, _, h, q => by
    have e : a = x := Option.some.inj h
    subst e
    rw [List.findIdx?_cons, if_pos q]
  | a :: l, i + 1, x, n, h, q => by
    rw [List.take_succ_cons, List.findIdx?_cons] at n
    rw [List.findIdx?_cons]
    by_cases pa : p a = true
    · rw [if_pos pa] at n
      cases n
    · rw [if_neg pa] at n ⊢
      rw [Option.map_eq_none_iff] at n
      rw [fidx_hit n h q]
      rfl
theorem fidx_miss {α : Type} {p : α → Bool} {l : List α} {i : Nat} {x : α} (n : (l.take i).findIdx? p = none) (h : l[i]? = some x) (q : p x = false) : (l.take (i + 1)).findIdx? p = none := by
  rw [List.findIdx?_eq_none_iff] at n ⊢
  intro y hy
  rw [take_more h] at hy
  rcases List.mem_append.mp hy with hy | hy
  · exact n y hy
  · rw [List.mem_singleton.mp hy]
    exact q
theorem p_first_blank (T : Kf K c) {vs : List V} {H : Hp} {Q : VK} {E : XK} (h : sp_first_blank K c vs H Q E) : t_first_blank K c (sp_are_blanks K c) (sp_signs_of K c) { nx := fun _ H' => Q .non H', rt := Q } (start N_first_blank vs) H := by
  obtain ⟨v, vp, s, ps, rfl, hs, ⟨l, us, rfl, hl, el, hr⟩, hwl, htl, k⟩ := h
  refine ⟨_, rfl, l, us, rfl, SqL.of hl, for_enum (K := K) (a := l) (xs := us) (fun i σ H' => Same H H' ∧ (∃ (o1 o2 : Option V), σ = [some v, some (.ref l), o1, o2]) ∧ (ps.take i).findIdx? (fun (p : Par) => p.text.all s.blank) = none) ⟨Same.refl H, ⟨none, none, rfl⟩, rfl⟩ (fun i σ H' _ q => SqL.of (q.1 _ _ hl)) ?_ ?_⟩
  · rintro i u σ H' x hu ⟨s1, ⟨o1, o2, rfl⟩, hw⟩ nx
    obtain ⟨p, hp⟩ := get_of_lt (l := ps) (i := i) (by rw [← el]; exact (List.getElem?_eq_some_iff.mp hu).1)
    have s2 : Same H (upd H' x (.tup [.int (i : Nat), u])) := Same.trans s1 (Same.newUpd nx)
    obtain ⟨a, dx, y, rfl, ha, hy⟩ := ParR.mono.up s2 (hr i u p hu hp)
    refine ⟨x, _, rfl, SqT.of upd_same, rfl, _, _, rfl, _, _, rfl, rfl, ?_⟩
    refine ⟨_, rfl, _, rfl, a, _, rfl, fd_text T ha, v, y, s, p.text, rfl, SheR.mono.up s2 hs, SqL.of hy, hwl, htl p (List.mem_of_getElem? hp), fun w H1 s3 r3 => ?_⟩
    refine ⟨w, s, p.text, rfl, (LsR.mono PrR.mono).up Same.new r3, _, rfl, ?_⟩
    have s4 := Same.trans s2 s3
    cases hb : List.all p.text s.blank with
    | true =>
      refine if_tt rfl ⟨_, rfl, ?_⟩
      have := k _ s4
      rw [fidx_hit hw hp hb] at this
      exact this
    | false => exact if_ff rfl ⟨s4, ⟨_, _, rfl⟩, fidx_miss hw hp hb⟩
  · rintro σ H' ⟨s1, ⟨o1, o2, rfl⟩, hw⟩
    rw [el, List.take_length] at hw
    have := k _ s1
    rw [hw] at this
    exact this

theorem p_all_lines (T : Kf K c) {vs : List V} {H : Hp} {Q : VK} {E : XK} (h : sp_all_lines K c vs H Q E) : t_all_lines K c (sp_text_lines K c) (sp_signs_of K c) { nx := fun _ H' => Q .non H', rt := Q } (start N_all_lines vs) H := by
  obtain ⟨v, vp, s, ps, rfl, hs, ⟨l, us, rfl, hl, el, hr⟩, hwl, hpl, htl, k⟩ := h
  have m : Mono (OptR (LsR PrR)) := OptR.mono (LsR.mono PrR.mono)
  refine ⟨by show 0 ≤ sizeLine; decide, fun f nf => ?_⟩
  have s0 : Same H (upd H f (.lst [])) := Same.newUpd nf
  refine ⟨_, rfl, l, rfl, ⟨_, SqL.of (s0 _ _ hl)⟩, for_list (K := K) (a := l) (xs := us) (fun i σ H' => Same H H' ∧ (∃ o, σ = [some v, some (.ref l), some (.ref f), o]) ∧ Grow (OptR (LsR PrR)) H H' f ((ps.take i).map s.lines)) ⟨s0, ⟨none, rfl⟩, Grow.nil nf upd_same⟩ (fun i σ H' _ q => SqL.of (q.1 _ _ hl)) ?_ ?_⟩
  · rintro i u σ H' hu ⟨s1, ⟨o, rfl⟩, g1⟩
    have hi : i < ps.length := by rw [← el]; exact (List.getElem?_eq_some_iff.mp hu).1
    obtain ⟨p, hp⟩ := get_of_lt hi
    have mp := List.mem_of_getElem? hp
    obtain ⟨a, dx, y, rfl, ha, hy⟩ := ParR.mono.up s1 (hr i u p hu hp)
    obtain ⟨_, fs, hf, ef, _⟩ := id g1
    refine ⟨_, rfl, .inl ⟨rfl, _, SqL.of hf⟩, _, rfl, _, rfl, a, _, rfl, fd_depth T ha, _, rfl, _, rfl, a, _, rfl, fd_text T ha, ?_⟩
    refine ⟨v, y, s, p.text, rfl, SheR.mono.up s1 hs, SqL.of hy, hwl, (htl p mp).1, fun w H1 s2 r2 => ?_⟩
    have s12 := Same.trans s1 s2
    refine ⟨v, w, s, p.depth, p.text, rfl, SheR.mono.up s12 hs, (htl p mp).2.1, (htl p mp).2.2, (LsR.mono PrR.mono).up Same.new r2, (htl p mp).1, fun z H2 s3 r3 => ?_⟩
    have s13 := Same.trans s12 s3
    have hf2 := s3 _ _ (s2 _ _ hf)
    have g2 := Grow.same m s3 (Grow.same m s2 g1)
    refine ⟨f, fs, z, rfl, rfl, hf2, ?_, Same.mut s13 nf, ⟨_, rfl⟩, ?_⟩
    · rw [ef, List.length_map, List.length_take]
      exact Nat.lt_of_le_of_lt (Nat.min_le_left _ _) (Nat.lt_of_lt_of_le hi (Nat.le_trans hpl (by decide)))
    · rw [take_more hp, List.map_append]
      exact Grow.push m g2 hf2 (new_item m s12 (s2 _ _ hf) r3)
  · rintro σ H' ⟨s1, ⟨o, rfl⟩, g1⟩
    rw [el, List.take_length] at g1
    exact ⟨_, rfl, k _ _ s1 (Grow.done m g1)⟩

theorem p_first_none (T : Kf K c) {vs : List V} {H : Hp} {Q : VK} {E : XK} (h : sp_first_none K c vs H Q E) : t_first_none K c { nx := fun _ H' => Q .non H', rt := Q } (start N_first_none vs) H := by
  obtain ⟨v, os, rfl, ⟨l, us, rfl, hl, el, hr⟩, k⟩ := h
  refine ⟨_, rfl, l, us, rfl, SqL.of hl, for_enum (K := K) (a := l) (xs := us) (fun i σ H' => Same H H' ∧ (∃ (o1 o2 : Option V), σ = [some (.ref l), o1, o2]) ∧ (os.take i).findIdx? (fun (o : Option (List (Nat × Nat))) => o.isNone) = none) ⟨Same.refl H, ⟨none, none, rfl⟩, rfl⟩ (fun i σ H' _ q => SqL.of (q.1 _ _ hl)) ?_ ?_⟩
  · rintro i u σ H' x hu ⟨s1, ⟨o1, o2, rfl⟩, hw⟩ nx
    obtain ⟨p, hp⟩ := get_of_lt (l := os) (i := i) (by rw [← el]; exact (List.getElem?_eq_some_iff.mp hu).1)
    have s2 : Same H (upd H' x (.tup [.int (i : Nat), u])) := Same.trans s1 (Same.newUpd nx)
    have ru := hr i u p hu hp
    refine ⟨x, _, rfl, SqT.of upd_same, rfl, _, _, rfl, _, _, rfl, rfl, ?_⟩
    refine ⟨_, rfl, rfl, _, rfl, ?_⟩
    cases p with
    | none =>
      have eu : u = .non := ru
      refine if_tt (by rw [eu]; rfl) ⟨_, rfl, ?_⟩
      have := k _ s2
      rw [fidx_hit hw hp rfl] at this
      exact this
    | some q =>
      obtain ⟨a, _, eu, _⟩ := ru
      refine if_ff (by rw [eu]; rfl) ⟨s2, ⟨_, _, rfl⟩, fidx_miss hw hp rfl⟩
  · rintro σ H' ⟨s1, ⟨o1, o2, rfl⟩, hw⟩
    rw [el, List.take_length] at hw
    have := k _ s1
    rw [hw] at this
    exact this

theorem p_character_count (T : Kf K c) {vs : List V} {H : Hp} {Q : VK} {E : XK} (h : sp_character_count K c vs H Q E) : t_character_count K c { nx := fun _ H' => Q .non H', rt := Q } (start N_character_count vs) H := by
  obtain ⟨v, ps, rfl, ⟨l, us, rfl, hl, el, hr⟩, hz, k⟩ := h
  refine ⟨_, rfl, l, rfl, ⟨_, SqL.of hl⟩, fun D nD => lc_list (K := K) (a := l) (xs := us) (fun i H' => Same H H' ∧ H' D = some (.lst (nvs ((ps.take i).map (fun (p : Par) => p.text.length))))) ⟨Same.newUpd nD, upd_same⟩ (fun i H' _ q => SqL.of (q.1 _ _ hl)) ?_ ?_⟩
  · rintro i u H' hu ⟨s1, hD⟩
    have hi : i < ps.length := by
      rw [← el]
      exact (List.getElem?_eq_some_iff.mp hu).1
    obtain ⟨p, hp⟩ := get_of_lt hi
    obtain ⟨a, dx, y, rfl, ha, hy⟩ := ParR.mono.up s1 (hr i u p hu hp)
    refine ⟨rfl, ?_⟩
    refine ⟨_, rfl, a, _, rfl, fd_text T ha, y, _, rfl, .inl (SqL.of hy), _, hD, ?_, Same.mut s1 nD, ?_⟩
    · rw [nvs_len, List.length_map, List.length_take]
      exact Nat.lt_of_le_of_lt (Nat.min_le_left _ _) (Nat.lt_of_lt_of_le hi (Nat.le_trans hz (by decide)))
    · rw [upd_same, take_more hp, List.map_append, nvs_len]
      unfold nvs
      rw [List.map_append]
      rfl
  · rintro H' ⟨s1, hD⟩
    rw [el, List.take_length] at hD
    refine ⟨D, (ps.map (fun (p : Par) => p.text.length)).map (fun (n : Nat) => (n : Int)), rfl, SqL.of (by rw [hD, nvs_int]), ?_⟩
    rw [sum_int]
    exact k _ s1
end HC

/-! # headcolumns: readings, part B: columns -/
namespace HC
open PySem PySem.Spec PyProof.Rows L2
variable {K : PySem.W.Frag} {c : CA}
def stF (l : Addr) (a b : V) : List (Str × V) := [("lines", .ref l), ("column", a), ("row", b)]
section
variable {H : Hp} {a dx l : Addr} {u v : V}
theorem fd_slines (T : Kf K c) (h : H a = some (.ins c.st dx (stF l u v))) : Fd K H a "lines" (.ref l) := ⟨_, _, _, h, T.clst, T.nslines, lk_here⟩
theorem fd_column (T : Kf K c) (h : H a = some (.ins c.st dx (stF l u v))) : Fd K H a "column" u := ⟨_, _, _, h, T.clst, T.ncolumn, (lk_past (by decide +kernel)).trans lk_here⟩
theorem fd_row (T : Kf K c) (h : H a = some (.ins c.st dx (stF l u v))) : Fd K H a "row" v := ⟨_, _, _, h, T.clst, T.nrow, (lk_past (by decide +kernel)).trans ((lk_past (by decide +kernel)).trans lk_here)⟩
theorem put_column {w : V} : putF "column" w (stF l u v) = stF l w v := (put_past (by decide +kernel)).trans (congrArg _ put_here)
theorem put_row {w : V} : putF "row" w (stF l u v) = stF l u w := (put_past (by decide +kernel)).trans (congrArg _ ((put_past (by decide +kernel)).trans (congrArg _ put_here)))
end
/-- a store into the setting itself -/
theorem SetAt.store {C : Addr} {H0 H H2 : Hp} {a dx l : Addr} {u v : V} {vs : List V} {y : IhColumn.At} (ha : H a = some (.ins C dx (stF l u v))) (hl : H l = some (.lst vs)) (n1 : H0 a = none) (n2 : H0 l = none) (s0 : Same H0 H) (el : vs.length = y.done.length)
    (hr : ∀ (i : Nat) (w : V) (z : Ln), vs[i]? = some w → y.done.reverse[i]? = some z → LnR (New H0 H) w z) (h2 : H2 a = some (.ins C dx (stF l (nv y.column) (nv y.row)))) (s2 : Same (Hide H a) H2) : SetAt C H0 H2 a y := by
  refine ⟨dx, l, vs, h2, s2 _ _ (hide_some.mpr ⟨ne_of hl ha (by intro z; cases z), hl⟩), n1, n2, fun b o q => s2 b o (hide_some.mpr ⟨ne_of_none q n1, s0 b o q⟩), el, fun i w z h3 h4 => ?_⟩
  obtain ⟨t, rfl, q⟩ := hr i w z h3 h4
  obtain ⟨q1, q2⟩ := new_some.mp q
  exact ⟨t, rfl, new_some.mpr ⟨q1, s2 _ _ (hide_some.mpr ⟨ne_of q2 ha (by intro z; cases z), q2⟩)⟩⟩

theorem p_Setting_init (T : Kf K c) {vs : List V} {H : Hp} {Q : VK} {E : XK} (h : sp_Setting_init K c vs H Q E) : t_Setting_init K c { nx := fun _ H' => Q .non H', rt := Q } (start N_Setting_init vs) H := by
  obtain ⟨p, dx, H0, rfl, hp, n0, s0, k⟩ := h
  refine ⟨by show 0 ≤ sizeLine; decide, fun l nl => ?_⟩
  have lp : l ≠ p := (ne_of_none hp nl).symm
  refine k_fld [("lines", .ref l)] rfl (show upd H l (.lst []) p = _ from (upd_ne lp.symm).trans hp) T.clst T.nslines (by simp) rfl fun H1 h1 s1 => ?_
  refine k_fld [("lines", .ref l), ("column", .int 0)] rfl h1 T.clst T.ncolumn (by simp) (put_new ["lines"] rfl (by decide +kernel)) fun H2 h2 s2 => ?_
  refine k_fld [("lines", .ref l), ("column", .int 0), ("row", .int 0)] rfl h2 T.clst T.nrow (by simp) (put_new ["lines", "column"] rfl (by decide +kernel)) fun H3 h3 s3 => ?_
  have t3 : Same (Hide (upd H l (.lst [])) p) H3 := Same.but (Same.but s1 s2) s3
  refine k H3 ⟨dx, l, [], h3, t3 l _ (hide_some.mpr ⟨lp, upd_same⟩), n0, Same.free s0 nl, fun b o q => t3 b o (hide_some.mpr ⟨ne_of_none q n0, ?_⟩), rfl, fun i u y q _ => by simp at q⟩
  exact Same.mut s0 (Same.free s0 nl) b o q

theorem p_Setting_put (T : Kf K c) {vs : List V} {H : Hp} {Q : VK} {E : XK} (h : sp_Setting_put K c vs H Q E) : t_Setting_put K c { nx := fun _ H' => Q .non H', rt := Q } (start N_Setting_put vs) H := by
  obtain ⟨a, H0, x, par, b, e, k, rfl, ⟨dx, l, us, ha, hl, n1, n2, s0, el, hr⟩, hz, kk⟩ := h
  have ha' : H a = some (.ins c.st dx (stF l (nv x.column) (nv x.row))) := ha
  refine ⟨_, rfl, a, _, rfl, fd_slines T ha', .inl ⟨rfl, _, SqL.of hl⟩, _, rfl, a, _, rfl, fd_column T ha', _, rfl, a, _, rfl, fd_row T ha', _, rfl, _, rfl, _, rfl, _, rfl, by show 6 ≤ sizeLine; decide, fun t nt => ?_⟩
  have s1 : Same H (upd H t (.tup [nv x.column, nv x.row, nv par, nv b, nv e, nv k])) := Same.newUpd nt
  have hl1 := s1 _ _ hl
  refine ⟨l, us, _, rfl, rfl, hl1, by rw [el]; exact Nat.lt_of_lt_of_le hz (by decide), ?_⟩
  have al : a ≠ l := ne_of ha hl (by intro z; cases z)
  have ha2 : upd (upd H t (.tup [nv x.column, nv x.row, nv par, nv b, nv e, nv k])) l (.lst (us ++ [.ref t])) a = some (.ins c.st dx (stF l (nv x.column) (nv x.row))) := (upd_ne al).trans (s1 _ _ ha')
  refine ⟨_, rfl, a, _, rfl, fd_row T ha2, _, _, rfl, rfl, k_fld (stF l (nv x.column) (nv (x.row + 1))) rfl ha2 T.clst T.nrow (by simp [stF]) put_row fun H3 h3 s3 => ?_⟩
  have ntl : t ≠ l := (ne_of_none hl nt).symm
  refine kk H3 (SetAt.store (y := ⟨x.column, x.row + 1, ⟨x.column, x.row, par, b, e, k⟩ :: x.done⟩) ha2 upd_same n1 n2 (Same.mut (Same.trans s0 s1) n2) ?_ ?_ h3 s3)
  · rw [List.length_append, el]
    rfl
  · intro i w z h1 h2
    have h2 : (x.done.reverse ++ [⟨x.column, x.row, par, b, e, k⟩])[i]? = some z := by
      rw [← List.reverse_cons]
      exact h2
    have er : us.length = x.done.reverse.length := by rw [el, List.length_reverse]
    by_cases hi : i < us.length
    · rw [List.getElem?_append_left hi] at h1
      rw [List.getElem?_append_left (by omega)] at h2
      obtain ⟨t', rfl, q⟩ := hr i w z h1 h2
      obtain ⟨q1, q2⟩ := new_some.mp q
      refine ⟨t', rfl, new_some.mpr ⟨q1, ?_⟩⟩
      rw [upd_ne (ne_of q2 hl (by intro z; cases z))]
      exact s1 _ _ q2
    · have hi2 : i = us.length := by
        have := (List.getElem?_eq_some_iff.mp h1).1
        simp at this
        omega
      subst hi2
      rw [List.getElem?_append_right (Nat.le_refl _)] at h1
      rw [er, List.getElem?_append_right (Nat.le_refl _)] at h2
      simp at h1 h2
      subst h1 h2
      exact ⟨t, rfl, new_some.mpr ⟨Same.free s0 nt, (upd_ne ntl).trans upd_same⟩⟩

theorem p_Setting_leave (T : Kf K c) {vs : List V} {H : Hp} {Q : VK} {E : XK} (h : sp_Setting_leave K c vs H Q E) : t_Setting_leave K c { nx := fun _ H' => Q .non H', rt := Q } (start N_Setting_leave vs) H := by
  obtain ⟨a, H0, x, g, rfl, hx, k⟩ := h
  obtain ⟨dx, l, us, ha, hl, n1, n2, s0, el, hr⟩ := id hx
  have ha' : H a = some (.ins c.st dx (stF l (nv x.column) (nv x.row))) := ha
  refine ⟨_, rfl, a, _, rfl, fd_row T ha', _, _, rfl, rfl, _, rfl, ?_⟩
  by_cases c1 : x.row = 0
  · refine if_ff (decide_eq_false (by omega)) ?_
    rw [if_neg (by omega)] at k
    exact k H hx
  · refine if_tt (decide_eq_true (by omega)) ?_
    rw [if_pos (by omega)] at k
    refine ⟨_, rfl, a, _, rfl, fd_row T ha', _, rfl, _, _, rfl, rfl, k_fld (stF l (nv x.column) (nv (x.row + g))) rfl ha' T.clst T.nrow (by simp [stF]) put_row fun H3 h3 s3 => ?_⟩
    exact k H3 (SetAt.store (y := { x with row := x.row + g }) ha' hl n1 n2 s0 el hr h3 s3)

theorem p_Setting_turn_column (T : Kf K c) {vs : List V} {H : Hp} {Q : VK} {E : XK} (h : sp_Setting_turn_column K c vs H Q E) : t_Setting_turn_column K c { nx := fun _ H' => Q .non H', rt := Q } (start N_Setting_turn_column vs) H := by
  obtain ⟨a, H0, x, rfl, hx, k⟩ := h
  obtain ⟨dx, l, us, ha, hl, n1, n2, s0, el, hr⟩ := id hx
  have ha' : H a = some (.ins c.st dx (stF l (nv x.column) (nv x.row))) := ha
  refine ⟨_, rfl, a, _, rfl, fd_column T ha', _, _, rfl, rfl, k_fld (stF l (nv (x.column + 1)) (nv x.row)) rfl ha' T.clst T.ncolumn (by simp [stF]) put_column fun H2 h2 s2 => ?_⟩
  refine k_fld (stF l (nv (x.column + 1)) (nv 0)) rfl h2 T.clst T.nrow (by simp [stF]) put_row fun H3 h3 s3 => ?_
  exact k H3 (SetAt.store (y := ⟨x.column + 1, 0, x.done⟩) ha' hl n1 n2 s0 el hr h3 (Same.but s2 s3))

/-! ## main_of -/
theorem main_self {p : Par} : ∀ {l : List Par} {i m j : Nat}, l[j]? = some p → p.depth = 1 → (IhColumn.mainsFrom i m l).getD j 0 = i + j
  | [], i, m, j, h, _ => by simp at h
  | a :: l, i, m, 0, h, d => by
    have e : a = p := Option.some.inj h
    subst e
    show (if a.depth = 1 then i else m) = i + 0
    rw [if_pos d, Nat.add_zero]
  | a :: l, i, m, j + 1, h, d => by
    have ih := main_self (l := l) (i := i + 1) (m := if a.depth = 1 then i else m) (j := j) h d
    show (IhColumn.mainsFrom (i + 1) (if a.depth = 1 then i else m) l).getD j 0 = _
    rw [ih]
    omega
theorem main_prev {p : Par} : ∀ {l : List Par} {i m j : Nat}, l[j + 1]? = some p → ¬ p.depth = 1 → (IhColumn.mainsFrom i m l).getD (j + 1) 0 = (IhColumn.mainsFrom i m l).getD j 0
  | [], i, m, j, h, _ => by simp at h
  | a :: l, i, m, 0, h, d => by
    cases l with
    | nil => simp at h
    | cons b l =>
      have e : b = p := Option.some.inj h
      subst e
      show (if b.depth = 1 then i + 1 else (if a.depth = 1 then i else m)) = (if a.depth = 1 then i else m)
      rw [if_neg d]
  | a :: l, i, m, j + 1, h, d => main_prev (l := l) (i := i + 1) (m := if a.depth = 1 then i else m) (j := j) h d
theorem p_main_of (T : Kf K c) {vs : List V} {H : Hp} {Q : VK} {E : XK} (h : sp_main_of K c vs H Q E) : t_main_of K c { nx := fun _ H' => Q .non H', rt := Q } (start N_main_of vs) H := by
  obtain ⟨v, ps, i, rfl, ⟨l, us, rfl, hl, el, hr⟩, hi, h1, k⟩ := h
  refine ⟨fun m σ H' => H' = H ∧ m < ps.length ∧ σ = [some (.ref l), some (nv m)] ∧ mainIx ps m = mainIx ps i, ⟨i, rfl, hi, rfl, rfl⟩, ?_⟩
  rintro j σ H' ⟨rfl, hj, rfl, hm⟩
  obtain ⟨p, hp⟩ := get_of_lt hj
  obtain ⟨u, hu⟩ := get_len el hp
  obtain ⟨a, dx, x, rfl, ha, hx⟩ := hr j u p hu hp
  refine ⟨_, rfl, _, rfl, l, us, _, _, rfl, rfl, SqL.of hl, at_of (j := j) rfl hu, a, _, rfl, fd_depth T ha, rfl, _, rfl, ?_⟩
  rw [show (V.int 1) = nv 1 from rfl, dec_nv]
  by_cases d : p.depth = 1
  · refine if_ff (by simp [d]) ⟨_, rfl, ?_⟩
    have e : mainIx ps j = j := (main_self (i := 0) (m := 0) hp d).trans (Nat.zero_add j)
    rw [← hm, e] at k
    exact k
  · refine if_tt (by simp [d]) ⟨_, fun _ _ h => h, ?_⟩
    cases j with
    | zero => exact absurd (h1 p hp) d
    | succ j =>
      refine ⟨_, rfl, _, _, rfl, rfl, j, Nat.lt_succ_self j, rfl, by omega, ?_, ?_⟩
      · have e : V.int (((j + 1 : Nat) : Int) - 1) = nv j := by
          unfold nv
          congr 1
          omega
        show [some (V.ref l), some (V.int (((j + 1 : Nat) : Int) - 1))] = _
        rw [e]
      · rw [← hm]
        exact (main_prev (i := 0) (m := 0) hp d).symm

/-! ## lead_kept -/
theorem cut_to {xs : List V} {b : Nat} {hi : Option Int} (hh : hi = some (b : Int)) (hb : b ≤ xs.length) : cutV xs none hi = xs.take b := by
  subst hh
  unfold cutV
  rw [HT.sIx_nat, HT.sIx_none, Nat.min_eq_left hb]
  rfl
theorem told_over {s : She} {m k n w x : Nat} {r : List Nat} (h : m < w + (s.of_ x).1) : s.toldOn m (k + 1) (x :: r) n w = n := if_pos h
theorem told_step {s : She} {m k n w x : Nat} {r : List Nat} (h : ¬ m < w + (s.of_ x).1) : s.toldOn m (k + 1) (x :: r) n w = s.toldOn m k r (n + 1) (w + (s.of_ x).1) := if_neg h
theorem p_lead_kept (T : Kf K c) {vs : List V} {H : Hp} {Q : VK} {E : XK} (h : sp_lead_kept K c vs H Q E) : t_lead_kept K c (sp_width_of K c) (sp_signs_of K c) { nx := fun _ H' => Q .non H', rt := Q } (start N_lead_kept vs) H := by
  obtain ⟨v, vp, s, p, rfl, hs, hp, hwl, hcl, hle, htl, k⟩ := h
  obtain ⟨a, dx, ix, w, t, rfl, ha, hi, hw, hc, hl⟩ := id hs
  obtain ⟨b, dy, y, rfl, hb, hy⟩ := id hp
  have ew : ((s.cut.map s.of_).map (fun p : Nat × Nat => p.1)).sum = s.wide s.cut := by
    unfold IhColumn.Setter.wide
    rw [List.map_map]
    rfl
  refine ⟨_, rfl, _, rfl, a, _, rfl, fd_cut T ha, .ref a, t, s, s.cut, rfl, hs, SqL.of hc, hwl, hcl, fun u H1 s1 r1 => ?_⟩
  refine ⟨u, s.cut.map s.of_, rfl, (LsR.mono PrR.mono).up Same.new r1, (by rw [List.length_map]; exact hcl), fun H2 s2 => ?_⟩
  rw [ew]
  have s02 := Same.trans s1 s2
  have hb2 := s02 _ _ hb
  refine ⟨_, rfl, _, rfl, b, _, rfl, fd_text T hb2, _, rfl, b, _, rfl, fd_lead T hb2, _, rfl, y, _, rfl, SqL.of (s02 _ _ hy), fun q nq => ?_⟩
  have ec : cutV (nvs p.text) none (some (p.lead : Int)) = nvs (p.text.take p.lead) := by
    rw [cut_to rfl (by rw [nvs_len]; exact hle)]
    unfold nvs
    rw [List.map_take]
  rw [ec]
  have s03 : Same H (upd H2 q (.lst (nvs (p.text.take p.lead)))) := Same.trans s02 (Same.newUpd (by
    exact nq))
  refine ⟨.ref a, q, s, p.text.take p.lead, rfl, SheR.mono.up s03 hs, SqL.of upd_same, hwl, ?_, fun z H4 s4 r4 => ?_⟩
  · rw [List.length_take]
    exact Nat.le_trans (Nat.min_le_right _ _) htl
  obtain ⟨l, us, rfl, hl4, el, hr⟩ := (LsR.mono PrR.mono).up Same.new r4
  rw [List.length_map, List.length_take, Nat.min_eq_left hle] at el
  have s04 := Same.trans s03 s4
  have ha4 := s04 _ _ ha
  refine ⟨l, rfl, ⟨_, SqL.of hl4⟩, for_list (K := K) (a := l) (xs := us) (fun i σ H' => H' = H4 ∧ i ≤ p.lead ∧ ∃ (w : Nat) (o : Option V), σ = [some (.ref a), some (.ref b), some (nv (s.wide s.cut + w)), some (nv i), o] ∧ (0 < i → s.wide s.cut + w ≤ s.house.width) ∧
    s.told p = if s.house.width < s.wide s.cut then 0 else s.toldOn (s.house.width - s.wide s.cut) (p.lead - i) (p.text.drop i) i w) ⟨rfl, Nat.zero_le _, 0, none, rfl, fun q => absurd q (Nat.lt_irrefl 0), rfl⟩ (fun i σ H' _ q => by rw [q.1]; exact SqL.of hl4) ?_ ?_⟩
  · rintro i u σ H' hu ⟨rfl, _, w, o, rfl, hpos, hd⟩
    have hil : i < p.lead := by rw [← el]; exact (List.getElem?_eq_some_iff.mp hu).1
    obtain ⟨n, hn⟩ := get_of_lt (l := p.text) (i := i) (by omega)
    have hn' : (p.text.take p.lead)[i]? = some n := by
      rw [List.getElem?_take, if_pos hil]
      exact hn
    obtain ⟨y', rfl, hy'⟩ := hr i u (s.of_ n) hu (of_get hn')
    refine ⟨_, rfl, _, rfl, y', _, _, _, rfl, rfl, SqT.of hy', ix_tup1, _, _, rfl, rfl, ?_⟩
    refine ⟨_, rfl, _, rfl, a, _, rfl, fd_width T ha4, _, _, rfl, rfl, _, rfl, ?_⟩
    rw [drop_get hn, show p.lead - i = (p.lead - (i + 1)) + 1 by omega] at hd
    by_cases c1 : s.house.width < s.wide s.cut + w + (s.of_ n).1
    · refine if_tt (decide_eq_true (by omega)) ⟨_, rfl, ?_⟩
      have e : s.told p = i := by
        rw [hd]
        by_cases c2 : s.house.width < s.wide s.cut
        · rw [if_pos c2]
          omega
        · rw [if_neg c2, told_over (by omega)]
      have := k _ s04
      rw [e] at this
      exact this
    · refine if_ff (decide_eq_false (by omega)) ?_
      rw [told_step (by omega)] at hd
      refine ⟨_, rfl, _, _, rfl, rfl, rfl, by omega, w + (s.of_ n).1, some (.ref y'), by rw [← Nat.add_assoc]; rfl, fun _ => by omega, hd⟩
  · rintro σ H' ⟨rfl, _, w, o, rfl, hpos, hd⟩
    have e : s.told p = p.lead := by
      rw [hd, el, Nat.sub_self]
      by_cases c2 : s.house.width < s.wide s.cut
      · rw [if_pos c2]
        by_cases c3 : 0 < p.lead
        · have := hpos (by omega)
          omega
        · omega
      · rw [if_neg c2]
        rfl
    refine ⟨_, rfl, ?_⟩
    have := k _ s04
    rw [e] at this
    rw [el]
    exact this

theorem p_rows_alone (T : Kf K c) {vs : List V} {H : Hp} {Q : VK} {E : XK} (h : sp_rows_alone K c vs H Q E) : t_rows_alone K c { nx := fun _ H' => Q .non H', rt := Q } (start N_rows_alone vs) H := by
  obtain ⟨l, ys, rfl, hl, k⟩ := h
  refine ⟨_, rfl, l, _, rfl, .inl hl, _, _, rfl, rfl, _, rfl, ?_⟩
  by_cases c1 : 1 < ys.length
  · rw [if_pos c1] at k
    exact if_tt (decide_eq_true (by omega)) k
  · rw [if_neg c1] at k
    exact if_ff (decide_eq_false (by omega)) k
theorem getD_of {α : Type} {l : List α} {i : Nat} {x d : α} (h : l[i]? = some x) : l.getD i d = x := by
  rw [List.getD_eq_getElem?_getD, h]
  rfl
theorem p_rows_needed (T : Kf K c) {vs : List V} {H : Hp} {Q : VK} {E : XK} (h : sp_rows_needed K c vs H Q E) : t_rows_needed K c (sp_rows_alone K c) { nx := fun _ H' => Q .non H', rt := Q } (start N_rows_needed vs) H := by
  obtain ⟨vp, vl, ps, lss, i, j, p, ls, rfl, hps, hlss, en, hp, hls, k⟩ := h
  obtain ⟨lp, us, rfl, hlp, elp, hrp⟩ := id hps
  obtain ⟨ll, ws, rfl, hll, ell, hrl⟩ := id hlss
  refine ⟨_, rfl, _, _, rfl, rfl, _, rfl, ?_⟩
  by_cases c1 : j = 0
  · refine if_ff (decide_eq_false (by omega)) ?_
    rw [if_pos c1] at k
    unfold needs0 at k
    obtain ⟨u, hu⟩ := get_len ell hls
    obtain ⟨y, zs, rfl, hy, ey, _⟩ := hrl i u ls hu hls
    refine ⟨_, rfl, _, rfl, ll, ws, _, _, rfl, rfl, SqL.of hll, at_of (j := i) rfl hu, y, _, rfl, .inl (SqL.of hy), _, _, rfl, rfl, _, rfl, ?_⟩
    rw [ey]
    by_cases c2 : 1 < ls.length
    · rw [if_pos c2] at k
      exact if_tt (decide_eq_true (by omega)) k
    · rw [if_neg c2] at k
      refine if_ff (decide_eq_false (by omega)) ?_
      refine ⟨_, rfl, _, _, rfl, rfl, ?_⟩
      obtain ⟨u2, hu2⟩ := get_len elp hp
      obtain ⟨a, dx, x, rfl, ha, hx⟩ := hrp i u2 p hu2 hp
      refine ⟨_, rfl, _, rfl, lp, us, _, _, rfl, rfl, SqL.of hlp, at_of (j := i) rfl hu2, a, _, rfl, fd_depth T ha, rfl, _, rfl, ?_⟩
      rw [show (V.int 1) = nv 1 from rfl, dec_nv]
      by_cases c3 : p.depth = 1
      · rw [if_pos c3] at k
        refine if_tt (by simp [c3]) ?_
        refine ⟨_, rfl, _, rfl, lp, _, rfl, .inl (SqL.of hlp), _, _, rfl, rfl, _, rfl, ?_⟩
        rw [elp]
        by_cases c4 : i + 1 < ps.length
        · refine if_tt (decide_eq_true (by omega)) ?_
          obtain ⟨q, hq⟩ := get_of_lt c4
          obtain ⟨u3, hu3⟩ := get_len elp hq
          obtain ⟨a3, dx3, x3, rfl, ha3, hx3⟩ := hrp (i + 1) u3 q hu3 hq
          rw [hq] at k
          refine ⟨_, rfl, _, rfl, lp, us, _, _, rfl, rfl, SqL.of hlp, at_of (j := i + 1) (by omega) hu3, a3, _, rfl, fd_depth T ha3, rfl, _, rfl, ?_⟩
          have k : Q (nv (if q.depth = 1 then 1 else if 1 < (lss.getD (i + 1) []).length then 3 else 2)) H := k
          by_cases c5 : q.depth = 1
          · rw [if_pos c5] at k
            exact if_ff (by rw [dec_nv]; simp [c5]) k
          · rw [if_neg c5] at k
            refine if_tt (by rw [dec_nv]; simp [c5]) ?_
            obtain ⟨ls3, hls3⟩ := get_of_lt (l := lss) (i := i + 1) (by omega)
            obtain ⟨u4, hu4⟩ := get_len ell hls3
            obtain ⟨y4, zs4, rfl, hy4, ey4, _⟩ := hrl (i + 1) u4 ls3 hu4 hls3
            rw [getD_of hls3] at k
            refine ⟨_, rfl, _, rfl, ll, ws, _, _, rfl, rfl, SqL.of hll, at_of (j := i + 1) (by omega) hu4, y4, zs4, rfl, SqL.of hy4, _, _, rfl, rfl, ?_⟩
            rw [ey4]
            by_cases c6 : 1 < ls3.length
            · rw [if_pos c6] at k ⊢
              exact k
            · rw [if_neg c6] at k ⊢
              exact k
        · have hq : ps[i + 1]? = none := List.getElem?_eq_none (by omega)
          rw [hq] at k
          exact if_ff (decide_eq_false (by omega)) (if_ff rfl k)
      · rw [if_neg c3] at k
        exact if_ff (by simp [c3]) (if_ff rfl k)
  · rw [if_neg c1] at k
    exact if_tt (decide_eq_true (by omega)) k

theorem p_begins_group (T : Kf K c) {vs : List V} {H : Hp} {Q : VK} {E : XK} (h : sp_begins_group K c vs H Q E) : t_begins_group K c { nx := fun _ H' => Q .non H', rt := Q } (start N_begins_group vs) H := by
  obtain ⟨vp, ps, i, p, rfl, ⟨lp, us, rfl, hlp, elp, hrp⟩, hp, k⟩ := h
  refine ⟨_, rfl, rfl, _, rfl, ?_⟩
  rw [show (V.int 0) = nv 0 from rfl, dec_nv]
  cases i with
  | zero => exact if_tt rfl (if_tt rfl k)
  | succ i =>
    refine if_ff rfl ?_
    obtain ⟨u2, hu2⟩ := get_len elp hp
    obtain ⟨a, dx, x, rfl, ha, hx⟩ := hrp (i + 1) u2 p hu2 hp
    obtain ⟨q, hq⟩ := get_of_lt (l := ps) (i := i) (by have := (List.getElem?_eq_some_iff.mp hp).1; omega)
    obtain ⟨u3, hu3⟩ := get_len elp hq
    obtain ⟨a3, dx3, x3, rfl, ha3, hx3⟩ := hrp i u3 q hu3 hq
    have k : Q (.bl (p.depth == 1 && ((ps[i]?).map fun (q : Par) => q.group) != some p.group)) H := k
    rw [hq] at k
    refine ⟨_, rfl, _, rfl, lp, us, _, _, rfl, rfl, SqL.of hlp, at_of (j := i + 1) rfl hu2, a, _, rfl, fd_depth T ha, rfl, _, rfl, ?_⟩
    rw [show (V.int 1) = nv 1 from rfl, dec_nv]
    cases hd : p.depth == 1 with
    | false =>
      rw [hd, Bool.false_and] at k
      exact if_tt rfl k
    | true =>
      rw [hd, Bool.true_and] at k
      refine if_ff rfl ?_
      refine ⟨_, rfl, _, rfl, lp, us, _, _, rfl, rfl, SqL.of hlp, at_of (j := i + 1) rfl hu2, a, _, rfl, fd_group T ha, _, rfl, _, rfl, _, _, rfl, rfl, lp, us, _, _, rfl, rfl, SqL.of hlp, at_of (j := i) (by omega) hu3, a3, _, rfl, fd_group T ha3, rfl, ?_⟩
      have e : (!decide (nv p.group = nv q.group)) = ((some q).map (fun (q : Par) => q.group) != some p.group) := by
        rw [dec_nv]
        show (!(p.group == q.group)) = (!(q.group == p.group))
        by_cases hg : p.group = q.group
        · simp [hg]
        · have h2 : ¬ q.group = p.group := fun z => hg z.symm
          rw [beq_eq_false_iff_ne.mpr hg, beq_eq_false_iff_ne.mpr h2]
      rw [← e] at k
      exact k
end HC

/-! # headcolumns: readings, part B2: set_line, set_all -/
namespace HC
open PySem PySem.Spec PyProof.Rows L2
variable {K : PySem.W.Frag} {c : CA}
theorem SetAt.same {C : Addr} {H0 H H2 : Hp} {a : Addr} {x : IhColumn.At} (s : Same H H2) (h : SetAt C H0 H a x) : SetAt C H0 H2 a x := by
  obtain ⟨dx, l, vs, ha, hl, n1, n2, s0, el, hr⟩ := h
  exact ⟨dx, l, vs, s _ _ ha, s _ _ hl, n1, n2, Same.trans s0 s, el, fun i u y q1 q2 => LnR.mono.up (Same.new2 s) (hr i u y q1 q2)⟩
theorem SetAt.base {C : Addr} {H0 H : Hp} {a : Addr} {x : IhColumn.At} (h : SetAt C H0 H a x) : Same H0 H := by
  obtain ⟨dx, l, vs, ha, hl, n1, n2, s0, el, hr⟩ := h
  exact s0
theorem no_put {l : Addr} {u v : V} : (stF l u v).lookup ("put" : Str) = none := (lk_past (by decide +kernel)).trans ((lk_past (by decide +kernel)).trans ((lk_past (by decide +kernel)).trans rfl))
theorem no_turn {l : Addr} {u v : V} : (stF l u v).lookup ("turn_column" : Str) = none := (lk_past (by decide +kernel)).trans ((lk_past (by decide +kernel)).trans ((lk_past (by decide +kernel)).trans rfl))
theorem no_leave {l : Addr} {u v : V} : (stF l u v).lookup ("leave" : Str) = none := (lk_past (by decide +kernel)).trans ((lk_past (by decide +kernel)).trans ((lk_past (by decide +kernel)).trans rfl))
/-- what set_line does at last -/
def tl_set (K : PySem.W.Frag) (c : CA) : TS := (tSeq (tAsg (tOp (rIxL K) (tOp (rIxL K) (tVar 2) (tVar 3)) (tVar 4)) (gTup K 2 (gCons (gName 7) (gCons (gName 8) gNil))))
    (tDrop (tMeth c.st "put" (sp_Setting_put K c) [] E0 (tVar 5) (tCons (tVar 3) (tCons (tVar 7) (tCons (tVar 8) (tCons (tC (.int 0)) tNil)))))))
theorem tail_set {D : Ends} {v vp vl : V} {i j : Nat} {a : Addr} {o1 o2 o3 : Option V} {H0 H : Hp} {y : IhColumn.At} {lss : List (List (Nat × Nat))} {ls : List (Nat × Nat)} {l : Nat × Nat} (hl : LsR (LsR PrR) H0 vl lss) (h1 : lss[i]? = some ls) (h2 : ls[j]? = some l)
    (hs : SetAt c.st H0 H a y) (hz : y.done.length < 16000000) (k : ∀ σ' H', SetAt c.st H0 H' a ⟨y.column, y.row + 1, ⟨y.column, y.row, i, l.1, l.2, 0⟩ :: y.done⟩ → D.nx σ' H') :
    tl_set K c D [some v, some vp, some vl, some (nv i), some (nv j), some (.ref a), o1, o2, o3] H := by
  obtain ⟨dx, m, vs, ha, _⟩ := id hs
  obtain ⟨ll, ws, rfl, hll, ell, hrl⟩ := (LsR.mono (LsR.mono PrR.mono)).up hs.base hl
  obtain ⟨u, hu⟩ := get_len ell h1
  obtain ⟨b, us, rfl, hb, eb, hrb⟩ := hrl i u ls hu h1
  obtain ⟨w, hw⟩ := get_len eb h2
  obtain ⟨t, rfl, ht⟩ := hrb j w l hw h2
  refine ⟨_, rfl, _, rfl, ll, ws, _, _, rfl, rfl, SqL.of hll, at_of (j := i) rfl hu, _, rfl, b, us, _, _, rfl, rfl, SqL.of hb, at_of (j := j) rfl hw, t, _, rfl, SqT.of ht, rfl, _, _, rfl, _, _, rfl, rfl, ?_⟩
  exact ⟨_, rfl, a, dx, _, rfl, ha, no_put, _, rfl, _, rfl, _, rfl, a, H0, y, i, l.1, l.2, 0, rfl, hs, hz, fun H' h' => k _ H' h'⟩
/-- .. and ahead of it where a continued line stands -/
def ct_set (K : PySem.W.Frag) (c : CA) : TS := (tSeq (tAsg (tCall (sp_main_of K c) [] E0 (tCons (tVar 1) (tCons (tVar 3) tNil))) (gName 6))
    (tDrop (tMeth c.st "put" (sp_Setting_put K c) [] E0 (tVar 5) (tCons (tVar 6) (tCons (tC (.int 0)) (tCons (tCall (sp_lead_kept K c) [] E0 (tCons (tVar 0) (tCons (tOp (rIxL K) (tVar 1) (tVar 6)) tNil))) (tCons (tC (.int 1)) tNil)))))))
theorem main_le {ps : List Par} (one : ∀ p, ps[0]? = some p → p.depth = 1) : ∀ {i : Nat}, i < ps.length → mainIx ps i ≤ i
  | 0, h => by
    obtain ⟨p, hp⟩ := get_of_lt h
    have := main_self (i := 0) (m := 0) hp (one p hp)
    unfold mainIx
    omega
  | i + 1, h => by
    obtain ⟨p, hp⟩ := get_of_lt h
    have ih := main_le one (i := i) (by omega)
    unfold mainIx at ih ⊢
    by_cases d : p.depth = 1
    · have := main_self (i := 0) (m := 0) hp d
      omega
    · have := main_prev (i := 0) (m := 0) hp d
      omega
theorem cont_set {D : Ends} {v vp vl : V} {i j : Nat} {a : Addr} {o1 o2 o3 : Option V} {H0 H : Hp} {y : IhColumn.At} {s : She} {ps : List Par} {lss : List (List (Nat × Nat))} (hs : SheR c.sh H0 v s) (hps : LsR (ParR c.pa) H0 vp ps) (J : Job s ps lss) (hi : i < ps.length)
    (hx : SetAt c.st H0 H a y) (hz : y.done.length < 16000000) (k : ∀ H', SetAt c.st H0 H' a ⟨y.column, y.row + 1, ⟨y.column, y.row, mainIx ps i, 0, ((ps[mainIx ps i]?).map s.told).getD 0, 1⟩ :: y.done⟩ →
      D.nx [some v, some vp, some vl, some (nv i), some (nv j), some (.ref a), some (nv (mainIx ps i)), o2, o3] H') :
    ct_set K c D [some v, some vp, some vl, some (nv i), some (nv j), some (.ref a), o1, o2, o3] H := by
  obtain ⟨dx, m, vs, ha, _⟩ := id hx
  have hs1 := SheR.mono.up hx.base hs
  have hps1 := (LsR.mono ParR.mono).up hx.base hps
  have hm : mainIx ps i < ps.length := Nat.lt_of_le_of_lt (main_le J.one hi) hi
  obtain ⟨p, hp⟩ := get_of_lt hm
  obtain ⟨lp, us, u, rfl, hlp, elp, hu, ru⟩ := LsR.at hps1 hp
  have mp := J.lead p (List.mem_of_getElem? hp)
  rw [hp] at k
  refine ⟨_, rfl, _, rfl, .ref lp, ps, i, rfl, hps1, hi, J.one, ?_⟩
  refine ⟨_, rfl, a, dx, _, rfl, ha, no_put, _, rfl, _, rfl, _, rfl, _, rfl, lp, us, _, _, rfl, rfl, SqL.of hlp, at_of (j := mainIx ps i) rfl hu, v, u, s, p, rfl, hs1, ru, J.w, J.ct, mp.1, mp.2, fun H1 s1 => ?_⟩
  exact ⟨a, H0, y, mainIx ps i, 0, s.told p, 1, rfl, hx.same s1, hz, fun H' h' => k H' h'⟩
theorem p_set_line (T : Kf K c) {vs : List V} {H : Hp} {Q : VK} {E : XK} (h : sp_set_line K c vs H Q E) : t_set_line K c (sp_Setting_put K c) (sp_Setting_turn_column K c) (sp_rows_needed K c) (sp_main_of K c) (sp_lead_kept K c) { nx := fun _ H' => Q .non H', rt := Q } (start N_set_line vs) H := by
  obtain ⟨v, vp, vl, a, H0, s, ps, lss, i, j, p, ls, l, x, rfl, hs, hps, hlss, J, hp, hls, hl, hx, hz, k⟩ := h
  obtain ⟨dx, m, us, ha, _⟩ := id hx
  have ha' : H a = some (.ins c.st dx (stF m (nv x.column) (nv x.row))) := ha
  have hs1 := SheR.mono.up hx.base hs
  have hps1 := (LsR.mono ParR.mono).up hx.base hps
  have hlss1 := (LsR.mono (LsR.mono PrR.mono)).up hx.base hlss
  obtain ⟨sa, sdx, ix, w, t, rfl, hsa, _⟩ := id hs1
  have hi : i < ps.length := (List.getElem?_eq_some_iff.mp hp).1
  have ek : ∀ n : Nat, n = (if j = 0 then needs0 ps lss i p ls else 1) → x.row + n ≤ s.house.height → s.put x i (mainIx ps i) (((ps[mainIx ps i]?).map s.told).getD 0) (p.depth == 1 && j == 0) (if j = 0 then needs0 ps lss i p ls else 1) l = ⟨x.column, x.row + 1, ⟨x.column, x.row, i, l.1, l.2, 0⟩ :: x.done⟩ := fun n e q => by
    rw [← e]
    unfold IhColumn.Setter.put
    rw [if_pos q]
  have ek1 : ∀ n : Nat, n = (if j = 0 then needs0 ps lss i p ls else 1) → ¬ x.row + n ≤ s.house.height → (p.depth == 1 && j == 0) = true → s.put x i (mainIx ps i) (((ps[mainIx ps i]?).map s.told).getD 0) (p.depth == 1 && j == 0) (if j = 0 then needs0 ps lss i p ls else 1) l = ⟨x.column + 1, 0 + 1, ⟨x.column + 1, 0, i, l.1, l.2, 0⟩ :: x.done⟩ := fun n e q q2 => by
    rw [← e]
    unfold IhColumn.Setter.put
    rw [if_neg q, if_pos q2]
  have ek2 : ∀ n : Nat, n = (if j = 0 then needs0 ps lss i p ls else 1) → ¬ x.row + n ≤ s.house.height → ¬ (p.depth == 1 && j == 0) = true → s.put x i (mainIx ps i) (((ps[mainIx ps i]?).map s.told).getD 0) (p.depth == 1 && j == 0) (if j = 0 then needs0 ps lss i p ls else 1) l = ⟨x.column + 1, 0 + 1 + 1, ⟨x.column + 1, 0 + 1, i, l.1, l.2, 0⟩ :: ⟨x.column + 1, 0, mainIx ps i, 0, ((ps[mainIx ps i]?).map s.told).getD 0, 1⟩ :: x.done⟩ := fun n e q q2 => by
    rw [← e]
    unfold IhColumn.Setter.put
    rw [if_neg q, if_neg q2]
  generalize hn : (if j = 0 then needs0 ps lss i p ls else 1) = n at ek ek1 ek2 k
  refine ⟨_, rfl, a, _, rfl, fd_row T ha', _, rfl, _, rfl, _, rfl, _, rfl, vp, vl, ps, lss, i, j, p, ls, rfl, hps1, hlss1, J.len, hp, hls, _, _, rfl, rfl, _, rfl, sa, _, rfl, fd_height T hsa, _, _, rfl, rfl, _, rfl, ?_⟩
  rw [hn]
  by_cases c1 : x.row + n ≤ s.house.height
  · refine if_ff (decide_eq_false (by omega)) ?_
    rw [ek n rfl c1] at k
    exact tail_set (K := K) (D := { nx := fun _ H' => Q .non H', rt := Q }) hlss hls hl hx (by omega) fun _ H' h' => k H' h'
  · refine if_tt (decide_eq_true (by omega)) ?_
    refine ⟨_, rfl, a, dx, _, rfl, ha', no_turn, a, H0, x, rfl, hx, fun H1 h1 => ?_⟩
    have more : ¬ (p.depth == 1 && j == 0) = true → ct_set K c { nx := tl_set K c { nx := fun _ H' => Q .non H', rt := Q }, rt := Q } [some (.ref sa), some vp, some vl, some (nv i), some (nv j), some (.ref a), none, none, none] H1 := fun q => by
      rw [ek2 n rfl c1 q] at k
      refine cont_set (K := K) hs hps J hi h1 (show x.done.length < 16000000 by omega) fun H2 h2 => ?_
      exact tail_set (K := K) (D := { nx := fun _ H' => Q .non H', rt := Q }) hlss hls hl h2 (show x.done.length + 1 < 16000000 by omega) fun _ H' h' => k H' h'
    refine ⟨_, rfl, _, _, rfl, rfl, _, rfl, ?_⟩
    by_cases c2 : j = 0
    · refine if_ff (decide_eq_false (by omega)) ?_
      obtain ⟨lp, us2, u, rfl, hlp, elp, hu, ru⟩ := LsR.at ((LsR.mono ParR.mono).up h1.base hps) hp
      obtain ⟨b, dx2, y, rfl, hb, hy⟩ := id ru
      refine ⟨_, rfl, _, rfl, lp, us2, _, _, rfl, rfl, SqL.of hlp, at_of (j := i) rfl hu, b, _, rfl, fd_depth T hb, rfl, _, rfl, ?_⟩
      rw [show (V.int 1) = nv 1 from rfl, dec_nv]
      by_cases c3 : p.depth = 1
      · refine if_ff (by simp [c3]) ?_
        rw [ek1 n rfl c1 (by simp [c2, c3])] at k
        exact tail_set (K := K) (D := { nx := fun _ H' => Q .non H', rt := Q }) hlss hls hl h1 (show x.done.length < 16000000 by omega) fun _ H' h' => k H' h'
      · exact if_tt (by simp [c3]) (more (by simp [c3]))
    · exact if_tt (decide_eq_true (by omega)) (if_tt rfl (more (by simp [c2])))

theorem put_len {s : She} {x : IhColumn.At} {par main told n : Nat} {b : Bool} {l : Nat × Nat} : (s.put x par main told b n l).done.length ≤ x.done.length + 2 := by
  unfold IhColumn.Setter.put
  by_cases c1 : x.row + n ≤ s.house.height
  · rw [if_pos c1]
    show x.done.length + 1 ≤ _
    omega
  · rw [if_neg c1]
    by_cases c2 : b = true
    · rw [if_pos c2]
      show x.done.length + 1 ≤ _
      omega
    · rw [if_neg c2]
      exact Nat.le_refl _
theorem zip_get {α : Type} {l : List α} {i : Nat} {x : α} (h : l[i]? = some x) : l.zipIdx[i]? = some (x, i) := by
  rw [List.getElem?_zipIdx, h, Nat.zero_add]
  rfl
theorem sum_more {α : Type} {f : α → Nat} {l : List α} {i : Nat} {x : α} (h : l[i]? = some x) : ((l.take (i + 1)).map f).sum = ((l.take i).map f).sum + f x := by
  rw [take_more h, List.map_append, List.sum_append]
  simp
theorem sum_part {α : Type} {f : α → Nat} : ∀ (l : List α) (i : Nat), ((l.take i).map f).sum ≤ (l.map f).sum
  | [], i => by simp
  | a :: l, 0 => Nat.zero_le _
  | a :: l, i + 1 => by
    have ih := sum_part (f := f) l i
    rw [List.take_succ_cons, List.map_cons, List.sum_cons, List.map_cons, List.sum_cons]
    omega
theorem int0 (i : Nat) : V.int (0 + (i : Int)) = nv i := by
  unfold nv
  congr 1
  omega
def gS (s : She) (ps : List Par) (lss : List (List (Nat × Nat))) (i : Nat) (p : Par) (ls : List (Nat × Nat)) (x : IhColumn.At) (l : (Nat × Nat) × Nat) : IhColumn.At :=
  s.put x i (mainIx ps i) (((ps[mainIx ps i]?).map s.told).getD 0) (p.depth == 1 && l.2 == 0) (if l.2 = 0 then needs0 ps lss i p ls else 1) l.1
def in_set (K : PySem.W.Frag) (c : CA) : TS := tFor (iRng1 (tCons (tCB (rLenL K) (tCons (tOp (rIxL K) (tVar 2) (tVar 4)) tNil)) tNil)) (gName 5) (tDrop (tCall (sp_set_line K c) [] E0 (tCons (tVar 0) (tCons (tVar 1) (tCons (tVar 2) (tCons (tVar 4) (tCons (tVar 5) (tCons (tVar 3) tNil))))))))
theorem inner_set {D : Ends} {v vp vl : V} {i : Nat} {a : Addr} {o : Option V} {H0 H : Hp} {x0 : IhColumn.At} {s : She} {ps : List Par} {lss : List (List (Nat × Nat))} {p : Par} {ls : List (Nat × Nat)} (hs : SheR c.sh H0 v s) (hps : LsR (ParR c.pa) H0 vp ps) (hlss : LsR (LsR PrR) H0 vl lss) (J : Job s ps lss)
    (hp : ps[i]? = some p) (hls : lss[i]? = some ls) (hx : SetAt c.st H0 H a x0) (hz : x0.done.length + 2 * ls.length ≤ 10000000)
    (k : ∀ (o : Option V) (H' : Hp), SetAt c.st H0 H' a (ls.zipIdx.foldl (gS s ps lss i p ls) x0) → (ls.zipIdx.foldl (gS s ps lss i p ls) x0).done.length ≤ x0.done.length + 2 * ls.length → D.nx [some v, some vp, some vl, some (.ref a), some (nv i), o] H') :
    in_set K c D [some v, some vp, some vl, some (.ref a), some (nv i), o] H := by
  obtain ⟨ll, ws, rfl, hll, ell, hrl⟩ := (LsR.mono (LsR.mono PrR.mono)).up hx.base hlss
  obtain ⟨u, hu⟩ := get_len ell hls
  obtain ⟨b, us, rfl, hb, eb, hrb⟩ := hrl i u ls hu hls
  refine ⟨_, rfl, _, rfl, ll, ws, _, _, rfl, rfl, SqL.of hll, at_of (j := i) rfl hu, b, us, rfl, .inl (SqL.of hb), (us.length : Int), rfl, by omega, by omega, ?_⟩
  refine for_range (lo := 0) (n := us.length) (fun j σ H' => (∃ o, σ = [some v, some vp, some (.ref ll), some (.ref a), some (nv i), o]) ∧ SetAt c.st H0 H' a ((ls.zipIdx.take j).foldl (gS s ps lss i p ls) x0) ∧ ((ls.zipIdx.take j).foldl (gS s ps lss i p ls) x0).done.length ≤ x0.done.length + 2 * j)
    ⟨⟨o, rfl⟩, hx, Nat.le_refl _⟩ ?_ ?_
  · rintro j σ H2 hj ⟨⟨o', rfl⟩, hx2, hz2⟩
    rw [eb] at hj
    obtain ⟨l, hl⟩ := get_of_lt hj
    rw [int0, take_more (zip_get hl), List.foldl_append]
    generalize (ls.zipIdx.take j).foldl (gS s ps lss i p ls) x0 = X at hx2 hz2 ⊢
    refine ⟨_, rfl, _, rfl, _, rfl, _, rfl, _, rfl, _, rfl, v, vp, .ref ll, a, H0, s, ps, lss, i, j, p, ls, l, X, rfl, hs, hps, hlss, J, hp, hls, hl, hx2, by omega, fun H' h' => ⟨⟨_, rfl⟩, h', ?_⟩⟩
    have := put_len (s := s) (x := X) (par := i) (main := mainIx ps i) (told := ((ps[mainIx ps i]?).map s.told).getD 0) (n := if j = 0 then needs0 ps lss i p ls else 1) (b := p.depth == 1 && j == 0) (l := l)
    have e : (List.foldl (gS s ps lss i p ls) X [(l, j)]) = s.put X i (mainIx ps i) (((ps[mainIx ps i]?).map s.told).getD 0) (p.depth == 1 && j == 0) (if j = 0 then needs0 ps lss i p ls else 1) l := rfl
    rw [e]
    omega
  · rintro σ H2 ⟨⟨o', rfl⟩, hx2, hz2⟩
    rw [eb, ← List.length_zipIdx (i := 0) (l := ls), List.take_length] at hx2 hz2
    rw [List.length_zipIdx] at hz2
    exact k _ H2 hx2 hz2
def fA (s : She) (ps : List Par) (lss : List (List (Nat × Nat))) (x : IhColumn.At) (p : Par × Nat) : IhColumn.At := setPar s ps lss x p.2 p.1 (lss.getD p.2 [])
theorem p_set_all (T : Kf K c) {vs : List V} {H : Hp} {Q : VK} {E : XK} (h : sp_set_all K c vs H Q E) : t_set_all K c (sp_Setting_init K c) (sp_begins_group K c) (sp_Setting_leave K c) (sp_set_line K c) { nx := fun _ H' => Q .non H', rt := Q } (start N_set_all vs) H := by
  obtain ⟨v, vp, vl, s, ps, lss, rfl, hs, hps, hlss, J, hsum, hpl, k⟩ := h
  intro a dx na nd ne
  have s0 : Same H (upd (upd H dx (.own a)) a (.ins c.st dx [])) := Same.trans (Same.newMake (H1 := H) na nd) Same.hide
  refine ⟨a, dx, H, rfl, upd_same, na, s0, fun H1 h1 => ⟨rfl, ?_⟩⟩
  obtain ⟨lp, us, rfl, hlp, elp, hrp⟩ := id hps
  refine ⟨_, rfl, lp, us, rfl, .inl (SqL.of (h1.base _ _ hlp)), (us.length : Int), rfl, by omega, by omega, ?_⟩
  refine for_range (lo := 0) (n := us.length) (fun i σ H' => (∃ o1 o2, σ = [some v, some (.ref lp), some vl, some (.ref a), o1, o2]) ∧ SetAt c.st H H' a ((ps.zipIdx.take i).foldl (fA s ps lss) ⟨0, 0, []⟩) ∧
    ((ps.zipIdx.take i).foldl (fA s ps lss) ⟨0, 0, []⟩).done.length ≤ 2 * ((lss.take i).map List.length).sum) ⟨⟨none, none, rfl⟩, h1, Nat.le_refl _⟩ ?_ ?_
  · rintro i σ H2 hi ⟨⟨o1, o2, rfl⟩, hx, hz⟩
    rw [elp] at hi
    obtain ⟨p, hp⟩ := get_of_lt hi
    obtain ⟨ls, hls⟩ := get_of_lt (l := lss) (i := i) (by rw [J.len]; exact hi)
    have hfull : ((lss.take (i + 1)).map List.length).sum ≤ 1000000 := Nat.le_trans (sum_part lss (i + 1)) hsum
    rw [sum_more hls] at hfull
    rw [int0, take_more (zip_get hp), List.foldl_append, sum_more hls]
    generalize (ps.zipIdx.take i).foldl (fA s ps lss) ⟨0, 0, []⟩ = X at hx hz ⊢
    have eF : List.foldl (fA s ps lss) X [(p, i)] = setPar s ps lss X i p ls := by
      show setPar s ps lss X i p (lss.getD i []) = _
      rw [getD_of hls]
    rw [eF]
    have st := hx.base
    refine ⟨_, rfl, _, rfl, .ref lp, ps, i, p, rfl, (LsR.mono ParR.mono).up st hps, hp, _, rfl, ?_⟩
    by_cases c1 : other ps i p = true
    · refine if_tt c1 ?_
      obtain ⟨dx2, m, us2, ha2, _⟩ := id hx
      obtain ⟨sa, sdx, ix, w, t, rfl, hsa, _⟩ := id (SheR.mono.up st hs)
      refine ⟨_, rfl, a, dx2, _, rfl, ha2, no_leave, _, rfl, sa, _, rfl, fd_gap T hsa, a, H, X, s.house.gap, rfl, hx, fun H3 h3 => ?_⟩
      have e0 : setPar s ps lss X i p ls = ls.zipIdx.foldl (gS s ps lss i p ls) (if X.row ≠ 0 then { X with row := X.row + s.house.gap } else X) := by
        unfold setPar
        rw [if_pos c1]
        rfl
      rw [e0]
      have el : (if X.row ≠ 0 then { X with row := X.row + s.house.gap } else X).done.length = X.done.length := by split <;> rfl
      exact inner_set (K := K) hs hps hlss J hp hls h3 (by omega) fun o H' q1 q2 => ⟨⟨_, _, rfl⟩, q1, by omega⟩
    · refine if_ff (by simpa using c1) ?_
      have e0 : setPar s ps lss X i p ls = ls.zipIdx.foldl (gS s ps lss i p ls) X := by
        unfold setPar
        rw [if_neg c1]
        rfl
      rw [e0]
      exact inner_set (K := K) hs hps hlss J hp hls hx (by omega) fun o H' q1 q2 => ⟨⟨_, _, rfl⟩, q1, by omega⟩
  · rintro σ H2 ⟨⟨o1, o2, rfl⟩, hx, hz⟩
    rw [elp, ← List.length_zipIdx (i := 0) (l := ps), List.take_length] at hx
    obtain ⟨dx2, l, us2, ha2, hl2, n1, n2, s2, e2, r2⟩ := hx
    have e : (ps.zipIdx.foldl (fA s ps lss) ⟨0, 0, []⟩) = setAll s ps lss := rfl
    rw [e] at ha2 e2 r2
    refine ⟨_, rfl, a, _, rfl, fd_slines T (dx := dx2) (l := l) ha2, k _ _ s2 ⟨l, us2, rfl, new_some.mpr ⟨n2, hl2⟩, by rw [e2, List.length_reverse], r2⟩⟩
end HC

/-! # headcolumns: readings, part E: the setter -/
namespace HC
open PySem PySem.Spec PyProof.Rows L2
variable {K : PySem.W.Frag} {c : CA}
def seF (u v w : V) : List (Str × V) := [("sheet", u), ("paragraphs", v), ("lines", w)]
section
variable {H : Hp} {a dx : Addr} {u v w : V}
theorem fd_sheet (T : Kf K c) (h : H a = some (.ins c.se dx (seF u v w))) : Fd K H a "sheet" u := ⟨_, _, _, h, T.clse, T.nsheet, lk_here⟩
theorem fd_paragraphs (T : Kf K c) (h : H a = some (.ins c.se dx (seF u v w))) : Fd K H a "paragraphs" v := ⟨_, _, _, h, T.clse, T.nparagraphs, (lk_past (by decide +kernel)).trans lk_here⟩
theorem fd_lines (T : Kf K c) (h : H a = some (.ins c.se dx (seF u v w))) : Fd K H a "lines" w := ⟨_, _, _, h, T.clse, T.nlines, (lk_past (by decide +kernel)).trans ((lk_past (by decide +kernel)).trans lk_here)⟩
theorem put_sheet {z : V} : putF "sheet" z (seF u v w) = seF z v w := put_here
theorem put_paragraphs {z : V} : putF "paragraphs" z (seF u v w) = seF u z w := (put_past (by decide +kernel)).trans (congrArg _ put_here)
theorem put_lines {z : V} : putF "lines" z (seF u v w) = seF u v z := (put_past (by decide +kernel)).trans (congrArg _ ((put_past (by decide +kernel)).trans (congrArg _ put_here)))
end
theorem Same.hides {H H2 : Hp} {x : Addr} (s : Same (Hide H x) H2) : Same (Hide H x) (Hide H2 x) := fun b o q => hide_some.mpr ⟨(hide_some.mp q).1, s b o q⟩
theorem SttAt.same {H H2 : Hp} {x : Addr} {d : Stt} (s : Same H H2) (h : SttAt c H x d) : SttAt c H2 x d := by
  obtain ⟨dx, va, vb, vc, h0, h1, h2, h3⟩ := h
  exact ⟨dx, va, vb, vc, s _ _ h0, SheR.mono.up (Same.hide2 s) h1, (LsR.mono ParR.mono).up (Same.hide2 s) h2, (LsR.mono LnR.mono).up (Same.hide2 s) h3⟩
theorem nvs_ints (l : List Nat) : (CoNeutral.ints l).map V.int = nvs l := (nvs_int l).symm

theorem p_Setter_init (T : Kf K c) {vs : List V} {H : Hp} {Q : VK} {E : XK} (h : sp_Setter_init K c vs H Q E) : t_Setter_init K c (sp_first_sheet K c) { nx := fun _ H' => Q .non H', rt := Q } (start N_Setter_init vs) H := by
  obtain ⟨x, dx, rfl, hx, k⟩ := h
  refine ⟨rfl, fun v H1 s1 r1 => ?_⟩
  refine k_fld [("sheet", v)] rfl (s1 _ _ hx) T.clse T.nsheet (by simp) rfl fun H2 h2 s2 => ?_
  refine ⟨by show 0 ≤ sizeLine; decide, fun p np => ?_⟩
  have px : p ≠ x := (ne_of_none h2 np).symm
  refine k_fld [("sheet", v), ("paragraphs", .ref p)] rfl (show upd H2 p (.lst []) x = _ from (upd_ne px.symm).trans h2) T.clse T.nparagraphs (by simp) (put_new ["sheet"] rfl (by decide +kernel)) fun H3 h3 s3 => ?_
  refine ⟨by show 0 ≤ sizeLine; decide, fun q nq => ?_⟩
  have qx : q ≠ x := (ne_of_none h3 nq).symm
  refine k_fld (seF v (.ref p) (.ref q)) rfl (show upd H3 q (.lst []) x = _ from (upd_ne qx.symm).trans h3) T.clse T.nlines (by simp) (put_new ["sheet", "paragraphs"] rfl (by decide +kernel)) fun H4 h4 s4 => ?_
  have t2 : Same (Hide H1 x) H3 := fun b o e => s3 b o (hide_some.mpr ⟨(hide_some.mp e).1, Same.butUpd s2 np b o e⟩)
  have t4 : Same (Hide H1 x) H4 := fun b o e => s4 b o (hide_some.mpr ⟨(hide_some.mp e).1, Same.butUpd t2 nq b o e⟩)
  have t0 : Same (Hide H x) H4 := fun b o e => t4 b o (hide_some.mpr ⟨(hide_some.mp e).1, s1 b o (hide_some.mp e).2⟩)
  have p4 : H4 p = some (.lst []) := s4 _ _ (hide_some.mpr ⟨px, (by
    have p3 : H3 p = some (.lst []) := s3 _ _ (hide_some.mpr ⟨px, upd_same⟩)
    rw [upd_ne (ne_of_none p3 nq)]
    exact p3)⟩)
  have q4 : H4 q = some (.lst []) := s4 _ _ (hide_some.mpr ⟨qx, upd_same⟩)
  refine k H4 t0 ⟨dx, v, .ref p, .ref q, h4, SheR.mono.up (fun b o e => ?_) r1, ⟨p, [], rfl, hide_some.mpr ⟨px, p4⟩, rfl, fun i u y a _ => by simp at a⟩, ⟨q, [], rfl, hide_some.mpr ⟨qx, q4⟩, rfl, fun i u y a _ => by simp at a⟩⟩
  obtain ⟨e1, e2⟩ := new_some.mp e
  have bx : b ≠ x := fun z => by rw [z, hx] at e1; cases e1
  exact hide_some.mpr ⟨bx, t4 _ _ (hide_some.mpr ⟨bx, e2⟩)⟩

theorem step_sheet (d : Stt) (h : IhColumn.House) (ws : List IhColumn.Width) (cut : List Nat) : IhColumns.step d (.sheet h ws cut) = if refusal ⟨h, ws, cut⟩ = 0 then (⟨⟨h, ws, cut⟩, [], []⟩, .number 0) else (d, .refused (refusal ⟨h, ws, cut⟩)) := by
  show (if h.height < 3 ∨ 1000 < h.height ∨ 100 < h.gap ∨ 1000000 < h.width ∨ 256 < ws.length ∨ 64 < cut.length then (d, IhColumns.Answer.refused 1) else if ws.any badW = true then (d, .refused 2) else
      if h.width < (⟨h, ws, cut⟩ : She).wide cut then (d, .refused 3) else (⟨⟨h, ws, cut⟩, [], []⟩, .number 0)) = _
  unfold refusal
  by_cases c1 : h.height < 3 ∨ 1000 < h.height ∨ 100 < h.gap ∨ 1000000 < h.width ∨ 256 < ws.length ∨ 64 < cut.length
  · rw [if_pos c1, if_pos c1]
    rfl
  · rw [if_neg c1, if_neg c1]
    by_cases c2 : ws.any badW = true
    · rw [if_pos c2, if_pos c2]
      rfl
    · rw [if_neg c2, if_neg c2]
      by_cases c3 : h.width < (⟨h, ws, cut⟩ : She).wide cut
      · rw [if_pos c3, if_pos c3]
        rfl
      · rw [if_neg c3, if_neg c3]
        rfl
theorem p_Setter_take_sheet (T : Kf K c) {vs : List V} {H : Hp} {Q : VK} {E : XK} (h : sp_Setter_take_sheet K c vs H Q E) : t_Setter_take_sheet K c (sp_Sheet_init K c) (sp_sheet_refusal K c) { nx := fun _ H' => Q .non H', rt := Q } (start N_Setter_take_sheet vs) H := by
  obtain ⟨x, an, vl, d, w, h, i1, i2, i3, t, g, ws, cut, rfl, hx, hn, hl, hwl, hcl, k⟩ := h
  obtain ⟨ll, us, rfl, hll, ell, hrl⟩ := hl
  obtain ⟨u0, hu0⟩ := get_len (xs := [wN ws, cut]) (i := 0) ell rfl
  obtain ⟨u1, hu1⟩ := get_len (xs := [wN ws, cut]) (i := 1) ell rfl
  obtain ⟨l0, rfl, hl0⟩ := hrl 0 u0 (wN ws) hu0 rfl
  obtain ⟨l1, rfl, hl1⟩ := hrl 1 u1 cut hu1 rfl
  refine ⟨_, rfl, _, rfl, ll, us, _, _, rfl, rfl, SqL.of hll, at_of (j := 0) rfl hu0, _, rfl, ll, us, _, _, rfl, rfl, SqL.of hll, at_of (j := 1) rfl hu1, fun p dp np ndp ne => ?_⟩
  have m := Same.newMake (H1 := H) (C := c.sh) np ndp
  have m' := Same.trans m Same.hide
  refine ⟨p, dp, an, l0, l1, w, h, i1, i2, i3, t, g, ws, cut, rfl, upd_same, Same.seq m' hn, SqL.of (m' _ _ hl0), SqL.of (m' _ _ hl1), fun H1 s1 r1 => ⟨rfl, ?_⟩⟩
  have s01 : Same H H1 := Same.trans m s1
  have r1' := SheR.mono.up Same.new r1
  refine ⟨_, rfl, .ref p, _, rfl, r1', hwl, hcl, fun H2 s2 => ?_⟩
  have s02 := Same.trans s01 s2
  have hx2 := hx.same s02
  refine ⟨_, rfl, _, _, rfl, rfl, _, rfl, ?_⟩
  unfold Does at k
  rw [step_sheet] at k
  by_cases c1 : refusal ⟨⟨w, h, [i1, i2, i3], t, g⟩, ws, cut⟩ = 0
  · refine if_ff (decide_eq_false (by omega)) ?_
    rw [if_pos c1] at k
    obtain ⟨dx, va, vb, vc, h0, h1, h2, h3⟩ := hx2
    refine ⟨_, rfl, k_fld (seF (.ref p) vb vc) rfl h0 T.clse T.nsheet (by simp) put_sheet fun H3 h3 s3 => ?_⟩
    refine ⟨by show 0 ≤ sizeLine; decide, fun q1 nq1 => ?_⟩
    have qx1 : q1 ≠ x := (ne_of_none h3 nq1).symm
    refine k_fld (seF (.ref p) (.ref q1) vc) rfl (show upd H3 q1 (.lst []) x = _ from (upd_ne qx1.symm).trans h3) T.clse T.nparagraphs (by simp [seF]) put_paragraphs fun H4 h4 s4 => ?_
    refine ⟨by show 0 ≤ sizeLine; decide, fun q2 nq2 => ?_⟩
    have qx2 : q2 ≠ x := (ne_of_none h4 nq2).symm
    refine k_fld (seF (.ref p) (.ref q1) (.ref q2)) rfl (show upd H4 q2 (.lst []) x = _ from (upd_ne qx2.symm).trans h4) T.clse T.nlines (by simp [seF]) put_lines fun H5 h5 s5 => ?_
    have t3 : Same (Hide H2 x) H4 := fun b o e => s4 b o (hide_some.mpr ⟨(hide_some.mp e).1, Same.butUpd s3 nq1 b o e⟩)
    have t5 : Same (Hide H2 x) H5 := fun b o e => s5 b o (hide_some.mpr ⟨(hide_some.mp e).1, Same.butUpd t3 nq2 b o e⟩)
    have p4 : H4 q1 = some (.lst []) := s4 _ _ (hide_some.mpr ⟨qx1, upd_same⟩)
    have p5 : H5 q1 = some (.lst []) := s5 _ _ (hide_some.mpr ⟨qx1, (upd_ne (ne_of_none p4 nq2)).trans p4⟩)
    have q5 : H5 q2 = some (.lst []) := s5 _ _ (hide_some.mpr ⟨qx2, upd_same⟩)
    refine ⟨by show 2 ≤ sizeLine; decide, fun z nz => ?_⟩
    have zx : z ≠ x := (ne_of_none h5 nz).symm
    have t6 : Same (Hide H x) (upd H5 z (.lst [.int 0, .int 0])) := Same.butUpd (fun b o e => t5 b o (hide_some.mpr ⟨(hide_some.mp e).1, s02 b o (hide_some.mp e).2⟩)) nz
    refine k _ _ t6 ⟨dx, .ref p, .ref q1, .ref q2, (upd_ne zx.symm).trans h5, SheR.mono.up (fun b o e => ?_) r1, ⟨q1, [], rfl, hide_some.mpr ⟨qx1, (upd_ne (ne_of_none p5 nz)).trans p5⟩, rfl, fun i u y a _ => by simp at a⟩, ⟨q2, [], rfl, hide_some.mpr ⟨qx2, (upd_ne (ne_of_none q5 nz)).trans q5⟩, rfl, fun i u y a _ => by simp at a⟩⟩ ⟨z, rfl, upd_same⟩
    obtain ⟨e1, e2⟩ := new_some.mp e
    have bx : b ≠ x := fun e3 => by
      rw [e3] at e1
      obtain ⟨dx', _, _, _, h0', _⟩ := hx
      rw [m _ _ h0'] at e1
      cases e1
    refine hide_some.mpr ⟨bx, ?_⟩
    have e4 := t5 _ _ (hide_some.mpr ⟨bx, s2 _ _ e2⟩)
    rw [upd_ne (ne_of_none e4 nz)]
    exact e4
  · refine if_tt (decide_eq_true (by omega)) ?_
    rw [if_neg c1] at k
    refine ⟨_, rfl, _, rfl, by show 1 ≤ sizeLine; decide, fun z nz => ?_⟩
    have s3 := Same.newUpd (o := .lst [.int (-((refusal ⟨⟨w, h, [i1, i2, i3], t, g⟩, ws, cut⟩ : Nat) : Int))]) nz
    exact k _ _ (Same.trans Same.hide (Same.trans s02 s3)) (hx2.same s3) ⟨z, rfl, upd_same⟩

theorem cut_gen (xs : List V) (f t : Nat) : cutV xs (some (f : Int)) (some (t : Int)) = (xs.take t).drop f := by
  unfold cutV
  rw [HT.sIx_nat, HT.sIx_nat, List.drop_take]
  by_cases h : f ≤ xs.length
  · rw [Nat.min_eq_left h]
    by_cases h2 : t ≤ xs.length
    · rw [Nat.min_eq_left h2]
    · rw [Nat.min_eq_right (by omega), List.take_of_length_le (by rw [List.length_drop]; exact Nat.le_refl _), List.take_of_length_le (by rw [List.length_drop]; omega)]
  · rw [List.drop_of_length_le (l := xs) (i := f) (by omega), List.drop_of_length_le (l := xs) (i := min f xs.length) (by omega), List.take_nil, List.take_nil]
theorem ln_at {x : Ln} {i : Nat} {v : V} {z : Int} (e : z = (i : Int)) (h : (lnV x)[i]? = some v) : atI (lnV x) z = some v := at_of e h
theorem p_Setter_tell_line (T : Kf K c) {vs : List V} {H : Hp} {Q : VK} {E : XK} (h : sp_Setter_tell_line K c vs H Q E) : t_Setter_tell_line K c { nx := fun _ H' => Q .non H', rt := Q } (start N_Setter_tell_line vs) H := by
  obtain ⟨x, an, vl, d, i, rfl, hx, G, hn, k⟩ := h
  obtain ⟨dx, va, vb, vc, h0, h1, h2, h3⟩ := id hx
  have h0' : H x = some (.ins c.se dx (seF va vb vc)) := h0
  obtain ⟨sa, sdx, ix, w, t, rfl, hsa, _, _, hcut, _⟩ := SheR.mono.up Same.hide h1
  obtain ⟨lb, ps, rfl, hlb, elb, hrb⟩ := (LsR.mono ParR.mono).up Same.hide h2
  obtain ⟨lc, ls, rfl, hlc, elc, hrc⟩ := (LsR.mono LnR.mono).up Same.hide h3
  unfold Does at k
  have k : ∀ (v : V) (H' : Hp), Same (Hide H x) H' → SttAt c H' x d → AnsR H' v (CoNeutral.numbers (match d.lines[i]? with
    | some l => IhColumns.Answer.line l (d.lineText l)
    | none => .refused 5)) → Q v H' := k
  refine ⟨_, rfl, an, _, _, _, rfl, rfl, hn, at_nvs (i := 0) rfl rfl, _, rfl, x, _, rfl, fd_lines T h0', lc, _, rfl, .inl (SqL.of hlc), _, _, rfl, rfl, _, rfl, ?_⟩
  rw [elc]
  by_cases c1 : d.lines.length ≤ i
  · refine if_tt (decide_eq_true (by omega)) ?_
    rw [List.getElem?_eq_none c1] at k
    refine ⟨_, rfl, by show 1 ≤ sizeLine; decide, fun z nz => ?_⟩
    have s3 := Same.newUpd (o := .lst [.int (-5)]) nz
    exact k _ _ (Same.trans Same.hide s3) (hx.same s3) ⟨z, rfl, upd_same⟩
  · refine if_ff (decide_eq_false (by omega)) ?_
    obtain ⟨l, hl⟩ := get_of_lt (l := d.lines) (i := i) (by omega)
    rw [hl] at k
    obtain ⟨u, hu⟩ := get_len elc hl
    obtain ⟨tl, rfl, htl⟩ := hrc i u l hu hl
    have gl := G.par l (List.mem_of_getElem? hl)
    obtain ⟨p, hp⟩ := get_of_lt gl.1
    obtain ⟨u2, hu2⟩ := get_len elb hp
    obtain ⟨a, pdx, y, rfl, ha, hy⟩ := hrb l.par u2 p hu2 hp
    have ptl := G.txt p (List.mem_of_getElem? hp)
    refine ⟨_, rfl, x, _, rfl, fd_lines T h0', _, rfl, an, _, _, _, rfl, rfl, hn, at_nvs (i := 0) rfl rfl, lc, ls, _, _, rfl, rfl, SqL.of hlc, at_of (j := i) rfl hu, ?_⟩
    refine ⟨_, rfl, x, _, rfl, fd_paragraphs T h0', _, rfl, tl, _, _, _, rfl, rfl, SqT.of htl, ln_at (i := 2) rfl rfl, lb, ps, _, _, rfl, rfl, SqL.of hlb, at_of (j := l.par) rfl hu2, a, _, rfl, fd_text T ha,
      _, rfl, tl, _, _, _, rfl, rfl, SqT.of htl, ln_at (i := 3) rfl rfl, _, rfl, _, rfl, tl, _, _, _, rfl, rfl, SqT.of htl, ln_at (i := 4) rfl rfl, _, rfl, y, _, rfl, SqL.of hy, fun q nq => ?_⟩
    have ec : cutV (nvs p.text) (some (l.from_ : Int)) (some (l.to_ : Int)) = nvs ((p.text.take l.to_).drop l.from_) := by
      rw [cut_gen]
      unfold nvs
      rw [List.map_drop, List.map_take]
    rw [ec]
    have nq : H q = none := nq
    have s1 : Same H (upd H q (.lst (nvs ((p.text.take l.to_).drop l.from_)))) := Same.newUpd nq
    have cl : (nvs ((p.text.take l.to_).drop l.from_)).length ≤ 65535 := by
      rw [nvs_len, List.length_drop, List.length_take]
      omega
    -- the end: from any characters
    have fin : ∀ (H2 : Hp) (r : Addr) (cs : List Nat), Same H H2 → H2 r = some (.lst (nvs cs)) → cs.length ≤ 100000 → cs = d.lineText l →
        (tRet (tOp rCat (tOp rCat (tLst (tCons (tC (.int 0)) tNil)) (tCB (rListOf K) (tCons (tVar 3) tNil))) (tVar 4))) { nx := fun _ H' => Q .non H', rt := Q } [some (.ref x), some (.ref an), some vl, some (.ref tl), some (.ref r)] H2 := by
      intro H2 r cs s2 hr hz ecs
      refine ⟨by show 1 ≤ sizeLine; decide, fun q1 n1 => ?_⟩
      have s3 := Same.newUpd (o := .lst [.int 0]) n1
      refine ⟨_, rfl, tl, _, rfl, .inr (SqT.of (s3 _ _ (s2 _ _ htl))), fun q2 n2 => ?_⟩
      have s4 := Same.newUpd (o := .lst (lnV l)) n2
      refine ⟨q1, q2, _, _, rfl, rfl, s4 _ _ upd_same, upd_same, by show 1 + 6 ≤ sizeLine; decide, fun q3 n3 => ?_⟩
      have s5 := Same.newUpd (o := .lst ([V.int 0] ++ lnV l)) n3
      have s25 := Same.trans s3 (Same.trans s4 s5)
      refine ⟨_, rfl, q3, r, _, _, rfl, rfl, upd_same, s25 _ _ hr, ?_, fun q4 n4 => ?_⟩
      · rw [nvs_len]
        show 7 + cs.length ≤ sizeLine
        exact Nat.le_trans (Nat.add_le_add_left hz 7) (by decide)
      · have s6 := Same.newUpd (o := .lst ([V.int 0] ++ lnV l ++ nvs cs)) n4
        have s06 := Same.trans s2 (Same.trans s25 s6)
        refine k _ _ (Same.trans Same.hide s06) (hx.same s06) ⟨q4, rfl, ?_⟩
        rw [upd_same, ecs]
        show some (HO.lst ([V.int 0] ++ lnV l ++ nvs (d.lineText l))) = some (HO.lst ((0 :: CoNeutral.ints ([l.column, l.row, l.par, l.from_, l.to_, l.kind] ++ d.lineText l)).map V.int))
        rw [List.map_cons, nvs_ints]
        unfold nvs
        rw [List.map_append]
        rfl
    have et : d.lineText l = if l.kind = 1 then p.text.take l.to_ ++ d.sheet.cut else (p.text.take l.to_).drop l.from_ := by
      unfold IhColumns.State.lineText
      rw [hp]
      rfl
    refine ⟨_, rfl, tl, _, _, _, rfl, rfl, SqT.of (s1 _ _ htl), ln_at (i := 5) rfl rfl, rfl, _, rfl, ?_⟩
    rw [show (V.int 1) = nv 1 from rfl, dec_nv]
    by_cases c2 : l.kind = 1
    · refine if_tt (by simp [c2]) ?_
      rw [if_pos c2] at et
      have f0 := gl.2 c2
      have h0q := s1 _ _ h0'
      have hsq := s1 _ _ hsa
      refine ⟨_, rfl, _, rfl, x, _, rfl, fd_sheet T h0q, sa, _, rfl, fd_cut T hsq, q, t, _, _, rfl, rfl, upd_same, s1 _ _ hcut, ?_, fun r nr => ?_⟩
      · have e2 : (nvs d.sheet.cut).length ≤ 64 := by
          rw [nvs_len]
          exact G.cut
        exact Nat.le_trans (Nat.add_le_add cl e2) (by decide : 65535 + 64 ≤ sizeLine)
      · have er : nvs ((p.text.take l.to_).drop l.from_) ++ nvs d.sheet.cut = nvs (p.text.take l.to_ ++ d.sheet.cut) := by
          unfold nvs
          rw [List.map_append, f0]
          rfl
        rw [er]
        have nr : upd H q (.lst (nvs ((p.text.take l.to_).drop l.from_))) r = none := nr
        refine fin _ r (p.text.take l.to_ ++ d.sheet.cut) (Same.trans s1 (Same.newUpd nr)) upd_same ?_ et.symm
        have := G.cut
        rw [List.length_append, List.length_take]
        omega
    · refine if_ff (by simp [c2]) ?_
      rw [if_neg c2] at et
      exact fin _ q ((p.text.take l.to_).drop l.from_) s1 upd_same (by rw [nvs_len] at cl; omega) et.symm

theorem p_Setter_tell_where (T : Kf K c) {vs : List V} {H : Hp} {Q : VK} {E : XK} (h : sp_Setter_tell_where K c vs H Q E) : t_Setter_tell_where K c { nx := fun _ H' => Q .non H', rt := Q } (start N_Setter_tell_where vs) H := by
  obtain ⟨x, an, vl, d, p, i, rfl, hx, hn, k⟩ := h
  obtain ⟨dx, va, vb, vc, h0, h1, h2, h3⟩ := id hx
  have h0' : H x = some (.ins c.se dx (seF va vb vc)) := h0
  obtain ⟨lc, ls, rfl, hlc, elc, hrc⟩ := (LsR.mono LnR.mono).up Same.hide h3
  unfold Does at k
  have k : ∀ (v : V) (H' : Hp), Same (Hide H x) H' → SttAt c H' x d → AnsR H' v (CoNeutral.numbers (match d.lines.findIdx? fun (l : Ln) => l.kind == 0 && l.par == p && (decide (l.from_ ≤ i) && decide (i < l.to_)) with
    | some j => IhColumns.Answer.number j
    | none => .refused 5)) → Q v H' := k
  refine ⟨_, rfl, an, _, rfl, hn, rfl, _, _, rfl, _, _, rfl, rfl, ?_⟩
  refine ⟨_, rfl, x, _, rfl, fd_lines T h0', lc, ls, rfl, SqL.of hlc, for_enum (K := K) (a := lc) (xs := ls) (fun j σ H' => Same H H' ∧ (∃ (o1 o2 : Option V), σ = [some (.ref x), some (.ref an), some vl, some (nv p), some (nv i), o1, o2]) ∧
    (d.lines.take j).findIdx? (fun (l : Ln) => l.kind == 0 && l.par == p && (decide (l.from_ ≤ i) && decide (i < l.to_))) = none) ⟨Same.refl H, ⟨none, none, rfl⟩, rfl⟩ (fun i σ H' _ q => SqL.of (q.1 _ _ hlc)) ?_ ?_⟩
  · rintro j u σ H' y hu ⟨s1, ⟨o1, o2, rfl⟩, hw⟩ ny
    obtain ⟨l, hl⟩ := get_of_lt (l := d.lines) (i := j) (by rw [← elc]; exact (List.getElem?_eq_some_iff.mp hu).1)
    have s2 : Same H (upd H' y (.tup [.int (j : Nat), u])) := Same.trans s1 (Same.newUpd ny)
    obtain ⟨tl, rfl, htl⟩ := LnR.mono.up s2 (hrc j u l hu hl)
    refine ⟨y, _, rfl, SqT.of upd_same, rfl, _, _, rfl, _, _, rfl, rfl, ?_⟩
    refine ⟨_, rfl, tl, _, _, _, rfl, rfl, SqT.of htl, ln_at (i := 5) rfl rfl, rfl, _, rfl, ?_⟩
    rw [show (V.int 0) = nv 0 from rfl, dec_nv]
    cases c1 : l.kind == 0 with
    | false => exact if_ff rfl (if_ff rfl ⟨s2, ⟨_, _, rfl⟩, fidx_miss hw hl (by simp [c1])⟩)
    | true =>
      refine if_tt rfl ?_
      refine ⟨_, rfl, tl, _, _, _, rfl, rfl, SqT.of htl, ln_at (i := 2) rfl rfl, _, rfl, rfl, _, rfl, ?_⟩
      rw [dec_nv]
      cases c2 : l.par == p with
      | false => exact if_ff rfl (if_ff rfl ⟨s2, ⟨_, _, rfl⟩, fidx_miss hw hl (by simp [c2])⟩)
      | true =>
        refine if_tt rfl ?_
        refine ⟨_, rfl, tl, _, _, _, rfl, rfl, SqT.of htl, ln_at (i := 3) rfl rfl, _, rfl, _, _, rfl, rfl, _, rfl, ?_⟩
        by_cases c3 : l.from_ ≤ i
        · refine if_tt (decide_eq_true (by omega)) ?_
          refine ⟨_, rfl, tl, _, _, _, rfl, rfl, SqT.of htl, ln_at (i := 4) rfl rfl, _, _, rfl, rfl, _, rfl, ?_⟩
          by_cases c4 : i < l.to_
          · refine if_tt (decide_eq_true (by omega)) ?_
            rw [fidx_hit hw hl (by simp [c1, c2, c3, c4])] at k
            refine ⟨_, rfl, by show 2 ≤ sizeLine; decide, fun z nz => ?_⟩
            have s3 := Same.newUpd (o := .lst [.int 0, .int (j : Nat)]) nz
            exact k _ _ (Same.trans Same.hide (Same.trans s2 s3)) (hx.same (Same.trans s2 s3)) ⟨z, rfl, upd_same⟩
          · exact if_ff (decide_eq_false (by omega)) ⟨s2, ⟨_, _, rfl⟩, fidx_miss hw hl (by simp [c4])⟩
        · exact if_ff (decide_eq_false (by omega)) ⟨_, rfl, if_ff rfl ⟨s2, ⟨_, _, rfl⟩, fidx_miss hw hl (by simp [c3])⟩⟩
  · rintro σ H' ⟨s1, ⟨o1, o2, rfl⟩, hw⟩
    rw [elc, List.take_length] at hw
    rw [hw] at k
    refine ⟨_, rfl, by show 1 ≤ sizeLine; decide, fun z nz => ?_⟩
    have s3 := Same.newUpd (o := .lst [.int (-5)]) nz
    exact k _ _ (Same.trans Same.hide (Same.trans s1 s3)) (hx.same (Same.trans s1 s3)) ⟨z, rfl, upd_same⟩

theorem p_Setter_tell_columns (T : Kf K c) {vs : List V} {H : Hp} {Q : VK} {E : XK} (h : sp_Setter_tell_columns K c vs H Q E) : t_Setter_tell_columns K c { nx := fun _ H' => Q .non H', rt := Q } (start N_Setter_tell_columns vs) H := by
  obtain ⟨x, vn, vl, d, rfl, hx, G, k⟩ := h
  obtain ⟨dx, va, vb, vc, h0, h1, h2, h3⟩ := id hx
  have h0' : H x = some (.ins c.se dx (seF va vb vc)) := h0
  obtain ⟨lc, ls, rfl, hlc, elc, hrc⟩ := (LsR.mono LnR.mono).up Same.hide h3
  unfold Does at k
  have k : ∀ (v : V) (H' : Hp), Same (Hide H x) H' → SttAt c H' x d → AnsR H' v [0, (((d.lines.map fun (l : Ln) => l.column + 1).foldl max 0 : Nat) : Int)] → Q v H' := k
  refine ⟨_, rfl, x, _, rfl, fd_lines T h0', lc, _, rfl, .inl (SqL.of hlc), rfl, _, rfl, ?_⟩
  rw [elc]
  have ed : decide (V.int (d.lines.length : Int) = V.int 0) = (d.lines.length == 0) := dec_nv (a := d.lines.length) (b := 0)
  rw [ed]
  by_cases c1 : d.lines.length = 0
  · refine if_tt (by simp [c1]) ?_
    have e : d.lines = [] := List.length_eq_zero_iff.mp c1
    rw [e] at k
    refine ⟨by show 2 ≤ sizeLine; decide, fun z nz => ?_⟩
    have s3 := Same.newUpd (o := .lst [.int 0, .int 0]) nz
    exact k _ _ (Same.trans Same.hide s3) (hx.same s3) ⟨z, rfl, upd_same⟩
  · refine if_ff (by simp [c1]) ?_
    obtain ⟨l, hl⟩ := get_of_lt (l := d.lines) (i := d.lines.length - 1) (by omega)
    rw [G.col l hl] at k
    obtain ⟨u, hu⟩ := get_len elc hl
    obtain ⟨tl, rfl, htl⟩ := hrc _ u l hu hl
    refine ⟨_, rfl, x, _, rfl, fd_lines T h0', _, rfl, x, _, rfl, fd_lines T h0', lc, _, rfl, .inl (SqL.of hlc), _, _, rfl, rfl, lc, ls, _, _, rfl, rfl, SqL.of hlc, at_of (j := d.lines.length - 1) (by omega) hu, tl, _, _, _, rfl, rfl, SqT.of htl, ln_at (i := 0) rfl rfl, _, _, rfl, rfl,
      by show 2 ≤ sizeLine; decide, fun z nz => ?_⟩
    have s3 := Same.newUpd (o := .lst [.int 0, .int ((l.column : Int) + 1)]) nz
    exact k _ _ (Same.trans Same.hide s3) (hx.same s3) ⟨z, rfl, upd_same⟩
end HC

/-! # headcolumns: the plain law of set -/
namespace HC
theorem foldl_inv {α β : Type} {P : α → Prop} {f : α → β → α} : ∀ (l : List β) (x : α), P x → (∀ x e, e ∈ l → P x → P (f x e)) → P (l.foldl f x)
  | [], _, h, _ => h
  | e :: l, x, h, k => foldl_inv l (f x e) (k x e List.mem_cons_self h) fun y z m q => k y z (List.mem_cons_of_mem _ m) q
theorem foldl_same {α β : Type} {f g : α → β → α} : ∀ (l : List β) (x : α), (∀ x e, e ∈ l → f x e = g x e) → l.foldl f x = l.foldl g x
  | [], _, _ => rfl
  | e :: l, x, k => by
    rw [List.foldl_cons, List.foldl_cons, k x e List.mem_cons_self]
    exact foldl_same l _ fun y z m => k y z (List.mem_cons_of_mem _ m)
theorem zip_mem {α : Type} {l : List α} {x : α} {i : Nat} (h : (x, i) ∈ l.zipIdx) : l[i]? = some x := List.mk_mem_zipIdx_iff_getElem?.mp h

/-! ## columns is setAll -/
theorem put_par {s : She} {ps : List Par} {lss : List (List (Nat × Nat))} (h : ps.map s.lines = lss.map some) (x : IhColumn.At) {i : Nat} {p : Par} (hp : ps[i]? = some p) :
    s.putPar ps.toArray (IhColumn.mainsFrom 0 0 ps).toArray x i p ((s.lines p).getD []) = setPar s ps lss x i p (lss.getD i []) := by
  have lg : ∀ {j : Nat} {q : Par}, ps[j]? = some q → (s.lines q).getD [] = lss.getD j [] := fun {j q} hq => by
    have h1 : (ps.map s.lines)[j]? = some (s.lines q) := by rw [List.getElem?_map, hq]; rfl
    rw [h, List.getElem?_map] at h1
    cases e : lss[j]? with
    | none => rw [e] at h1; cases h1
    | some ls =>
      rw [e] at h1
      rw [getD_of e, ← Option.some.inj h1]
      rfl
  have em : (IhColumn.mainsFrom 0 0 ps).toArray.getD i 0 = mainIx ps i := by
    unfold mainIx
    rw [List.getD_eq_getElem?_getD, Array.getD_eq_getD_getElem?, List.getElem?_toArray]
  have ex : (if other ps i p = true ∧ x.row ≠ 0 then { x with row := x.row + s.house.gap } else x) = (if other ps i p = true then (if x.row ≠ 0 then { x with row := x.row + s.house.gap } else x) else x) := by
    by_cases c1 : other ps i p = true
    · by_cases c2 : x.row ≠ 0
      · rw [if_pos ⟨c1, c2⟩, if_pos c1, if_pos c2]
      · rw [if_neg (fun q => c2 q.2), if_pos c1, if_neg c2]
    · rw [if_neg (fun q => c1 q.1), if_neg c1]
  rw [lg hp]
  unfold IhColumn.Setter.putPar setPar
  rw [← ex, em]
  dsimp only
  simp only [List.getElem?_toArray]
  unfold needs0
  cases hq : ps[i + 1]? with
  | none =>
    cases i with
    | zero => rfl
    | succ j => rfl
  | some q =>
    have e := lg hq
    simp only [e]
    cases i with
    | zero => rfl
    | succ j => rfl
theorem columns_ok {s : She} {ps : List Par} {lss : List (List (Nat × Nat))} (h : ps.map s.lines = lss.map some) : s.columns ps = .ok (setAll s ps lss).done.reverse := by
  have e : ps.findIdx? (fun (p : Par) => (s.lines p).isNone) = none := by
    rw [List.findIdx?_eq_none_iff]
    intro p hp
    have : s.lines p ∈ ps.map s.lines := List.mem_map.mpr ⟨p, hp, rfl⟩
    rw [h] at this
    obtain ⟨ls, _, e⟩ := List.mem_map.mp this
    rw [← e]
    rfl
  unfold IhColumn.Setter.columns
  rw [e]
  show Except.ok _ = Except.ok _
  congr 1
  congr 1
  congr 1
  exact foldl_same _ _ fun x e he => put_par h x (zip_mem he)
theorem columns_no {s : She} {ps : List Par} {i : Nat} (h : (ps.map s.lines).findIdx? (fun o => o.isNone) = some i) : s.columns ps = .error i := by
  rw [List.findIdx?_map] at h
  unfold IhColumn.Setter.columns
  have h : ps.findIdx? (fun (p : Par) => (s.lines p).isNone) = some i := h
  rw [h]
theorem all_some {α : Type} : ∀ {os : List (Option α)}, os.findIdx? (fun o => o.isNone) = none → ∃ xs : List α, os = xs.map some
  | [], _ => ⟨[], rfl⟩
  | none :: os, h => by
    rw [List.findIdx?_cons] at h
    cases h
  | some x :: os, h => by
    rw [List.findIdx?_cons] at h
    have h2 : os.findIdx? (fun o => o.isNone) = none := Option.map_eq_none_iff.mp h
    obtain ⟨xs, e⟩ := all_some h2
    exact ⟨x :: xs, by rw [e]; rfl⟩

/-! ## how lines stand -/
structure Low (n : Nat) (x : IhColumn.At) : Prop where
  all : ∀ l ∈ x.done, l.column ≤ x.column ∧ l.par < n ∧ (l.kind = 1 → l.from_ = 0)
structure Nice (n : Nat) (x : IhColumn.At) : Prop extends Low n x where
  hd : ∀ l r, x.done = l :: r → l.column = x.column
theorem Low.line {n : Nat} {y : IhColumn.At} (h : Low n y) {i b e : Nat} (hi : i < n) : Nice n ⟨y.column, y.row + 1, ⟨y.column, y.row, i, b, e, 0⟩ :: y.done⟩ := by
  refine ⟨⟨fun l hl => ?_⟩, fun l r q => ?_⟩
  · rcases List.mem_cons.mp hl with rfl | hl
    · exact ⟨Nat.le_refl _, hi, fun q => by cases q⟩
    · exact h.all l hl
  · cases q
    rfl
theorem put_nice {n : Nat} {s : She} {x : IhColumn.At} {i m told needs : Nat} {b : Bool} {l : Nat × Nat} (h : Low n x) (hi : i < n) (hm : m < n) : Nice n (s.put x i m told b needs l) := by
  unfold IhColumn.Setter.put
  refine Low.line (y := if x.row + needs ≤ s.house.height then x else if b = true then ⟨x.column + 1, 0, x.done⟩ else ⟨x.column + 1, 1, ⟨x.column + 1, 0, m, 0, told, 1⟩ :: x.done⟩) ?_ hi
  by_cases c1 : x.row + needs ≤ s.house.height
  · rw [if_pos c1]
    exact h
  · rw [if_neg c1]
    have up : ∀ l ∈ x.done, l.column ≤ x.column + 1 ∧ l.par < n ∧ (l.kind = 1 → l.from_ = 0) := fun l hl => by
      have := h.all l hl
      exact ⟨by omega, this.2⟩
    by_cases c2 : b = true
    · rw [if_pos c2]
      exact ⟨up⟩
    · rw [if_neg c2]
      refine ⟨fun l hl => ?_⟩
      rcases List.mem_cons.mp hl with rfl | hl
      · exact ⟨Nat.le_refl _, hm, fun _ => rfl⟩
      · exact up l hl
theorem setPar_nice {s : She} {ps : List Par} {lss : List (List (Nat × Nat))} (one : ∀ p, ps[0]? = some p → p.depth = 1) {x : IhColumn.At} (h : Nice ps.length x) {i : Nat} {p : Par} {ls : List (Nat × Nat)} (hi : i < ps.length) : Nice ps.length (setPar s ps lss x i p ls) := by
  unfold setPar
  refine foldl_inv (P := Nice ps.length) _ _ ?_ fun y e _ q => put_nice q.toLow hi (Nat.lt_of_le_of_lt (main_le one hi) hi)
  split
  · split
    · exact ⟨⟨h.all⟩, h.hd⟩
    · exact h
  · exact h
theorem setAll_nice {s : She} {ps : List Par} {lss : List (List (Nat × Nat))} (one : ∀ p, ps[0]? = some p → p.depth = 1) : Nice ps.length (setAll s ps lss) := by
  unfold setAll
  refine foldl_inv (P := Nice ps.length) _ _ ⟨⟨fun l hl => by cases hl⟩, fun l r q => by cases q⟩ fun y e he q => ?_
  exact setPar_nice one q ((List.getElem?_eq_some_iff.mp (zip_mem he)).1)
theorem max_le : ∀ (l : List Nat) (a m : Nat), a ≤ m → (∀ y ∈ l, y ≤ m) → l.foldl max a ≤ m
  | [], _, _, h, _ => h
  | b :: l, a, m, h, k => max_le l (max a b) m (Nat.max_le.mpr ⟨h, k b List.mem_cons_self⟩) fun y hy => k y (List.mem_cons_of_mem _ hy)
theorem le_max : ∀ (l : List Nat) (a m : Nat), (m ≤ a ∨ m ∈ l) → m ≤ l.foldl max a
  | [], _, _, h => by
    rcases h with h | h
    · exact h
    · cases h
  | b :: l, a, m, h => by
    refine le_max l (max a b) m ?_
    rcases h with h | h
    · exact .inl (Nat.le_trans h (Nat.le_max_left _ _))
    · rcases List.mem_cons.mp h with rfl | h
      · exact .inl (Nat.le_max_right _ _)
      · exact .inr h
theorem nice_max {n : Nat} {x : IhColumn.At} (h : Nice n x) {l : Ln} (hl : x.done.reverse[x.done.reverse.length - 1]? = some l) : (x.done.reverse.map fun (y : Ln) => y.column + 1).foldl max 0 = l.column + 1 := by
  cases e : x.done with
  | nil =>
    rw [e] at hl
    cases hl
  | cons a r =>
    have ea : a = l := by
      rw [e, List.reverse_cons, List.length_append] at hl
      rw [List.getElem?_append_right (by simp)] at hl
      simpa using hl
    subst ea
    have hc := h.hd a r e
    refine Nat.le_antisymm (max_le _ _ _ (Nat.zero_le _) fun y hy => ?_) (le_max _ _ _ (.inr ?_))
    · obtain ⟨z, hz, rfl⟩ := List.mem_map.mp hy
      have := (h.all z (by rw [e]; exact List.mem_reverse.mp hz)).1
      omega
    · exact List.mem_map.mpr ⟨a, List.mem_reverse.mpr List.mem_cons_self, rfl⟩

/-! ## how many lines -/
theorem lines_len {s : She} {d e : Nat} {t : List Nat} (he : e ≤ t.length) : ∀ (n a0 : Nat) (first : Bool) (ls : List (Nat × Nat)), a0 ≤ t.length → s.linesFrom d e n (t.drop a0) a0 first = some ls → ls.length ≤ t.length - a0
  | 0, _, _, ls, _, h => by
    have e : ([] : List (Nat × Nat)) = ls := Option.some.inj h
    subst e
    exact Nat.zero_le _
  | n + 1, a0, first, ls, ha, h => by
    by_cases c1 : e ≤ a0 + lead s t a0
    · rw [lines_done c1] at h
      have e : ([] : List (Nat × Nat)) = ls := Option.some.inj h
      subst e
      exact Nat.zero_le _
    · cases hq : s.endsOn e (s.room d first) (t.drop (a0 + lead s t a0)) (a0 + lead s t a0) 0 none none with
      | none =>
        rw [lines_none c1 hq] at h
        cases h
      | some b =>
        rw [lines_some c1 hq] at h
        obtain ⟨b1, b2⟩ := ends_in (s := s) (e := e) (r := s.room d first) (a0 + lead s t a0) (t.drop (a0 + lead s t a0)) (a0 + lead s t a0) 0 none none (fun z q => by cases q) (fun z q => by cases q) (Nat.le_refl _) b hq
        cases hr : s.linesFrom d e n (t.drop b) b false with
        | none => rw [hr] at h; cases h
        | some rs =>
          rw [hr] at h
          have e : (a0 + lead s t a0, b) :: rs = ls := Option.some.inj h
          subst e
          have := lines_len he n b false rs (by omega) hr
          show rs.length + 1 ≤ _
          omega
theorem par_len {s : She} {p : Par} {ls : List (Nat × Nat)} (h : s.lines p = some ls) : ls.length ≤ p.text.length := lines_len (halt_le s p.text) _ 0 true ls (Nat.zero_le _) h
theorem sum_len {s : She} : ∀ {ps : List Par} {lss : List (List (Nat × Nat))}, ps.map s.lines = lss.map some → (lss.map List.length).sum ≤ (ps.map fun (p : Par) => p.text.length).sum
  | [], [], _ => Nat.le_refl _
  | [], _ :: _, h => by cases h
  | _ :: _, [], h => by cases h
  | p :: ps, ls :: lss, h => by
    obtain ⟨h1, h2⟩ := List.cons.inj h
    have ih := sum_len (s := s) (ps := ps) (lss := lss) h2
    have := par_len h1
    rw [List.map_cons, List.sum_cons, List.map_cons, List.sum_cons]
    omega

/-! ## paragraphs that are right -/
theorem right_all : ∀ {ps : List Par} {i d : Nat}, IhColumns.wrong i d ps = none → ∀ p ∈ ps, ∃ d', ¬ wrongP d' p
  | [], _, _, _, p, hp => by cases hp
  | q :: ps, i, d, h, p, hp => by
    rw [wrong_cons] at h
    by_cases c1 : wrongP d q
    · rw [if_pos c1] at h
      cases h
    · rw [if_neg c1] at h
      rcases List.mem_cons.mp hp with rfl | hp
      · exact ⟨d, c1⟩
      · exact right_all h p hp
theorem right_one {ps : List Par} (h : IhColumns.wrong 0 0 ps = none) (p : Par) (hp : ps[0]? = some p) : p.depth = 1 := by
  cases ps with
  | nil => cases hp
  | cons q ps =>
    have e : q = p := Option.some.inj hp
    subst e
    rw [wrong_cons] at h
    by_cases c1 : wrongP 0 q
    · rw [if_pos c1] at h
      cases h
    · unfold wrongP at c1
      omega
theorem right_in {p : Par} {d : Nat} (h : ¬ wrongP d p) : 1 ≤ p.depth ∧ p.depth ≤ 3 ∧ p.text.length ≤ 65535 ∧ p.lead ≤ p.text.length := by
  unfold wrongP IhColumns.PARTEXT at h
  refine ⟨by omega, by omega, ?_, ?_⟩ <;> omega
end HC

/-! # headcolumns: readings, part E2: take_paragraphs -/
namespace HC
open PySem PySem.Spec PyProof.Rows L2
variable {K : PySem.W.Frag} {c : CA}
theorem LsR.unopt {α : Type} {R : Rel α} {H : Hp} {v : V} {xs : List α} (h : LsR (OptR R) H v (xs.map some)) : LsR R H v xs := by
  obtain ⟨l, us, e, hl, el, hr⟩ := h
  refine ⟨l, us, e, hl, by rw [el, List.length_map], fun i u x h1 h2 => ?_⟩
  exact hr i u (some x) h1 (by rw [List.getElem?_map, h2]; rfl)
theorem new_to_hide {H H1 H2 : Hp} {x : Addr} {o : HO} (hx : H x = some o) (s : Same (Hide H1 x) H2) : Same (New H H1) (Hide H2 x) := fun b u q => by
  obtain ⟨q1, q2⟩ := new_some.mp q
  have bx : b ≠ x := fun e => by rw [e, hx] at q1; cases q1
  exact hide_some.mpr ⟨bx, s b u (hide_some.mpr ⟨bx, q2⟩)⟩
theorem ov_some {n : Nat} : (!decide (ov (some n) = V.non)) = true := rfl
theorem ov_none : (!decide (ov none = V.non)) = false := rfl
theorem p_Setter_take_paragraphs (T : Kf K c) {vs : List V} {H : Hp} {Q : VK} {E : XK} (h : sp_Setter_take_paragraphs K c vs H Q E) : t_Setter_take_paragraphs K c (sp_first_wrong K c) (sp_first_blank K c) (sp_all_lines K c) (sp_first_none K c) (sp_set_all K c) (sp_Paragraph_init K c) (sp_character_count K c) { nx := fun _ H' => Q .non H', rt := Q } (start N_Setter_take_paragraphs vs) H := by
  obtain ⟨x, vn, vl, d, ps, rfl, hx, G, hl, hpl, htl, k⟩ := h
  obtain ⟨ll, us, rfl, hll, ell, hrl⟩ := hl
  rw [List.length_map] at ell
  obtain ⟨dx, va, vb, vc, h0, h1, h2, h3⟩ := id hx
  have h0' : H x = some (.ins c.se dx (seF va vb vc)) := h0
  have hsh := SheR.mono.up Same.hide h1
  have hwl : d.sheet.widths.length ≤ 1000000 := Nat.le_trans G.wid (by decide)
  have hcl : d.sheet.cut.length ≤ 1000000 := Nat.le_trans G.cut (by decide)
  unfold Does at k
  have k : ∀ (v : V) (H' : Hp), Same (Hide H x) H' → SttAt c H' x (d.printed ps).1 → AnsR H' v (CoNeutral.numbers (d.printed ps).2) → Q v H' := k
  unfold IhColumns.State.printed at k
  have mp : Mono (LsR (ParR c.pa)) := LsR.mono ParR.mono
  have mo : Mono (LsR (OptR (LsR PrR))) := LsR.mono (OptR.mono (LsR.mono PrR.mono))
  refine ⟨_, rfl, ll, rfl, ⟨_, SqL.of hll⟩, fun D nD => lc_list (K := K) (a := ll) (xs := us) (fun i H' => Same H H' ∧ Grow (ParR c.pa) H H' D (ps.take i)) ⟨Same.newUpd nD, Grow.nil nD upd_same⟩ (fun i H' _ q => SqL.of (q.1 _ _ hll)) ?_ ?_⟩
  · rintro i u H' hu ⟨s1, g1⟩
    have hi : i < ps.length := by rw [← ell]; exact (List.getElem?_eq_some_iff.mp hu).1
    obtain ⟨p, hp⟩ := get_of_lt hi
    obtain ⟨l, rfl, hpl2⟩ := hrl i u (p.depth :: p.group :: p.lead :: p.text) hu (by rw [List.getElem?_map, hp]; rfl)
    refine ⟨rfl, _, rfl, fun y dy ny ndy ne => ?_⟩
    have m := Same.newMake (H1 := H') (C := c.pa) ny ndy
    have m' := Same.trans m Same.hide
    refine ⟨y, dy, l, p.depth, p.group, p.lead, p.text, rfl, upd_same, SqL.of (m' _ _ (s1 _ _ hpl2)), fun H1 s2 r2 => ⟨rfl, ?_⟩⟩
    have s3 : Same H' H1 := Same.trans m s2
    have g2 := Grow.same ParR.mono s3 g1
    obtain ⟨_, vs1, hD, eD, _⟩ := id g2
    obtain ⟨_, vs0, hD0, _, _⟩ := id g1
    have s13 := Same.trans s1 s3
    refine ⟨vs1, hD, ?_, Same.mut s13 nD, ?_⟩
    · rw [eD, List.length_take]
      exact Nat.lt_of_le_of_lt (Nat.min_le_left _ _) (Nat.lt_of_lt_of_le hi (Nat.le_trans hpl (by decide)))
    · rw [take_more hp]
      exact Grow.push ParR.mono g2 hD (new_item ParR.mono (Same.trans s1 m) (m _ _ hD0) r2)
  · rintro H1 ⟨s1, g1⟩
    rw [ell, List.take_length] at g1
    have rD0 := Grow.done ParR.mono g1
    have rD : LsR (ParR c.pa) H1 (.ref D) ps := mp.up Same.new rD0
    refine ⟨_, rfl, .ref D, ps, rfl, rD, fun H2 s2 => ?_⟩
    have s02 := Same.trans s1 s2
    refine ⟨_, rfl, rfl, _, rfl, ?_⟩
    cases hw : IhColumns.wrong 0 0 ps with
    | some i =>
      rw [hw] at k
      refine if_tt ov_some ?_
      refine ⟨_, rfl, _, rfl, by show 2 ≤ sizeLine; decide, fun z nz => ?_⟩
      have s3 := Same.newUpd (o := .lst [.int (-1), nv i]) nz
      exact k _ _ (Same.trans Same.hide (Same.trans s02 s3)) (hx.same (Same.trans s02 s3)) ⟨z, rfl, upd_same⟩
    | none =>
      rw [hw] at k
      refine if_ff ov_none ?_
      refine ⟨_, rfl, .ref D, ps, rfl, mp.up s2 rD, hpl, fun H3 s3 => ?_⟩
      have s23 := Same.trans s2 s3
      have s03 := Same.trans s02 s3
      refine ⟨_, _, rfl, rfl, _, rfl, ?_⟩
      have k : ∀ (v : V) (H' : Hp), Same (Hide H x) H' → SttAt c H' x (if IhColumns.CHARS < (ps.map fun (p : Par) => p.text.length).sum then (d, IhColumns.Answer.refused 7) else match ps.findIdx? fun (p : Par) => p.text.all d.sheet.blank with
        | some i => (d, .refusedAt 6 i)
        | none => match d.sheet.columns ps with
          | .error i => (d, .refusedAt 5 i)
          | .ok ls => if IhColumns.LINES < ls.length then (d, .refused 4) else ({ d with pars := ps, lines := ls }, .number ls.length)).1 → AnsR H' v (CoNeutral.numbers (if IhColumns.CHARS < (ps.map fun (p : Par) => p.text.length).sum then (d, IhColumns.Answer.refused 7) else match ps.findIdx? fun (p : Par) => p.text.all d.sheet.blank with
        | some i => (d, .refusedAt 6 i)
        | none => match d.sheet.columns ps with
          | .error i => (d, .refusedAt 5 i)
          | .ok ls => if IhColumns.LINES < ls.length then (d, .refused 4) else ({ d with pars := ps, lines := ls }, .number ls.length)).2) → Q v H' := k
      by_cases c1 : IhColumns.CHARS < (ps.map fun (p : Par) => p.text.length).sum
      · rw [if_pos c1] at k
        have c1' : 262144 < (ps.map fun (p : Par) => p.text.length).sum := c1
        refine if_tt (decide_eq_true (by omega)) ?_
        refine ⟨_, rfl, by show 1 ≤ sizeLine; decide, fun z nz => ?_⟩
        have s4 := Same.newUpd (o := .lst [.int (-7)]) nz
        exact k _ _ (Same.trans Same.hide (Same.trans s03 s4)) (hx.same (Same.trans s03 s4)) ⟨z, rfl, upd_same⟩
      · rw [if_neg c1] at k
        have c1' : ¬ 262144 < (ps.map fun (p : Par) => p.text.length).sum := c1
        refine if_ff (decide_eq_false (by omega)) ?_
        refine ⟨_, rfl, x, _, rfl, fd_sheet T (s03 _ _ h0'), _, rfl, va, .ref D, d.sheet, ps, rfl, SheR.mono.up s03 hsh, mp.up s23 rD, hwl, htl, fun H4 s4 => ?_⟩
        have s24 := Same.trans s23 s4
        have s04 := Same.trans s03 s4
        refine ⟨_, rfl, rfl, _, rfl, ?_⟩
        cases hb : ps.findIdx? (fun (p : Par) => p.text.all d.sheet.blank) with
        | some i =>
          rw [hb] at k
          refine if_tt ov_some ?_
          refine ⟨_, rfl, _, rfl, by show 2 ≤ sizeLine; decide, fun z nz => ?_⟩
          have s5 := Same.newUpd (o := .lst [.int (-6), nv i]) nz
          exact k _ _ (Same.trans Same.hide (Same.trans s04 s5)) (hx.same (Same.trans s04 s5)) ⟨z, rfl, upd_same⟩
        | none =>
          rw [hb] at k
          refine if_ff ov_none ?_
          have rin : ∀ p ∈ ps, 1 ≤ p.depth ∧ p.depth ≤ 3 ∧ p.text.length ≤ 65535 ∧ p.lead ≤ p.text.length := fun p hp => by
            obtain ⟨d', hd'⟩ := right_all hw p hp
            exact right_in hd'
          refine ⟨_, rfl, x, _, rfl, fd_sheet T (s04 _ _ h0'), _, rfl, va, .ref D, d.sheet, ps, rfl, SheR.mono.up s04 hsh, mp.up s24 rD, hwl, hpl, fun p hp => ⟨htl p hp, (rin p hp).1, (rin p hp).2.1⟩, fun w H5 s5 r5 => ?_⟩
          have s25 := Same.trans s24 s5
          have s05 := Same.trans s04 s5
          have r5' := mo.up Same.new r5
          refine ⟨_, rfl, w, ps.map d.sheet.lines, rfl, r5', fun H6 s6 => ?_⟩
          have s26 := Same.trans s25 s6
          have s06 := Same.trans s05 s6
          refine ⟨_, rfl, rfl, _, rfl, ?_⟩
          cases hn : (ps.map d.sheet.lines).findIdx? (fun o => o.isNone) with
          | some i =>
            rw [columns_no hn] at k
            refine if_tt ov_some ?_
            refine ⟨_, rfl, _, rfl, by show 2 ≤ sizeLine; decide, fun z nz => ?_⟩
            have s7 := Same.newUpd (o := .lst [.int (-5), nv i]) nz
            exact k _ _ (Same.trans Same.hide (Same.trans s06 s7)) (hx.same (Same.trans s06 s7)) ⟨z, rfl, upd_same⟩
          | none =>
            refine if_ff ov_none ?_
            obtain ⟨lss, hlss⟩ := all_some hn
            rw [columns_ok hlss] at k
            rw [hlss] at r5'
            have r6 : LsR (LsR PrR) H6 w lss := (LsR.mono (LsR.mono PrR.mono)).up s6 (LsR.unopt r5')
            have hlen : lss.length = ps.length := by
              have := congrArg List.length hlss
              rw [List.length_map, List.length_map] at this
              exact this.symm
            have one := right_one hw
            have J : Job d.sheet ps lss := ⟨hwl, hcl, hlen, one, fun p hp => ⟨(rin p hp).2.2.2, htl p hp⟩⟩
            have hsum : (lss.map List.length).sum ≤ 1000000 := Nat.le_trans (sum_len hlss) (by omega)
            refine ⟨_, rfl, x, _, rfl, fd_sheet T (s06 _ _ h0'), _, rfl, _, rfl, va, .ref D, w, d.sheet, ps, lss, rfl, SheR.mono.up s06 hsh, mp.up s26 rD, r6, J, hsum, hpl, fun f H7 s7 r7 => ?_⟩
            have s27 := Same.trans s26 s7
            have s07 := Same.trans s06 s7
            obtain ⟨lf, fs, rfl, hlf, elf, _⟩ := id r7
            have hlf7 := Same.new _ _ hlf
            refine ⟨_, rfl, lf, _, rfl, .inl (SqL.of hlf7), _, _, rfl, rfl, _, rfl, ?_⟩
            rw [elf]
            have k : ∀ (v : V) (H' : Hp), Same (Hide H x) H' → SttAt c H' x (if IhColumns.LINES < (setAll d.sheet ps lss).done.reverse.length then (d, IhColumns.Answer.refused 4) else ({ d with pars := ps, lines := (setAll d.sheet ps lss).done.reverse }, .number (setAll d.sheet ps lss).done.reverse.length)).1 →
              AnsR H' v (CoNeutral.numbers (if IhColumns.LINES < (setAll d.sheet ps lss).done.reverse.length then (d, IhColumns.Answer.refused 4) else ({ d with pars := ps, lines := (setAll d.sheet ps lss).done.reverse }, .number (setAll d.sheet ps lss).done.reverse.length)).2) → Q v H' := k
            by_cases c2 : IhColumns.LINES < (setAll d.sheet ps lss).done.reverse.length
            · rw [if_pos c2] at k
              have c2' : 65536 < (setAll d.sheet ps lss).done.reverse.length := c2
              refine if_tt (decide_eq_true (by omega)) ?_
              refine ⟨_, rfl, by show 1 ≤ sizeLine; decide, fun z nz => ?_⟩
              have s8 := Same.newUpd (o := .lst [.int (-4)]) nz
              exact k _ _ (Same.trans Same.hide (Same.trans s07 s8)) (hx.same (Same.trans s07 s8)) ⟨z, rfl, upd_same⟩
            · rw [if_neg c2] at k
              have c2' : ¬ 65536 < (setAll d.sheet ps lss).done.reverse.length := c2
              refine if_ff (decide_eq_false (by omega)) ?_
              refine ⟨_, rfl, k_fld (seF va (.ref D) vc) rfl (s07 _ _ h0') T.clse T.nparagraphs (by simp [seF]) put_paragraphs fun H8 h8 s8 => ?_⟩
              refine ⟨_, rfl, k_fld (seF va (.ref D) (.ref lf)) rfl h8 T.clse T.nlines (by simp [seF]) put_lines fun H9 h9 s9 => ?_⟩
              have t9 : Same (Hide H7 x) H9 := Same.but s8 s9
              have lfx : lf ≠ x := fun e => by
                obtain ⟨q1, _⟩ := new_some.mp hlf
                rw [e, s06 _ _ h0'] at q1
                cases q1
              have hlf9 := t9 _ _ (hide_some.mpr ⟨lfx, hlf7⟩)
              refine ⟨_, rfl, lf, _, rfl, .inl (SqL.of hlf9), by show 2 ≤ sizeLine; decide, fun z nz => ?_⟩
              rw [elf]
              have nz : H9 z = none := nz
              have zx : z ≠ x := (ne_of_none h9 nz).symm
              have s10 := Same.newUpd (o := .lst [.int 0, nv (setAll d.sheet ps lss).done.reverse.length]) nz
              have t10 : Same (Hide H7 x) (upd H9 z (.lst [.int 0, nv (setAll d.sheet ps lss).done.reverse.length])) := Same.butUpd t9 nz
              have a10 : Same (Hide H x) (upd H9 z (.lst [.int 0, nv (setAll d.sheet ps lss).done.reverse.length])) := fun b o e => t10 b o (hide_some.mpr ⟨(hide_some.mp e).1, s07 b o (hide_some.mp e).2⟩)
              refine k _ _ a10 ⟨dx, va, .ref D, .ref lf, (upd_ne zx.symm).trans h9, SheR.mono.up (Same.hides a10) h1, ?_, ?_⟩ ⟨z, rfl, upd_same⟩
              · exact mp.up (Same.trans (Same.new2 s27) (new_to_hide h0 t10)) rD0
              · exact (LsR.mono LnR.mono).up (Same.trans (Same.new1 s06) (new_to_hide h0 t10)) r7
end HC

/-! # headcolumns: the plain law of the calls -/
namespace HC
abbrev inz := CoNeutral.ints
abbrev natz := CoNeutral.nats
theorem ints_len (l : List Nat) : (inz l).length = l.length := List.length_map _
theorem nats_ints (l : List Nat) : natz (inz l) = l := by
  show (l.map fun (n : Nat) => (n : Int)).map Int.toNat = l
  rw [List.map_map]
  exact (List.map_congr_left fun n _ => Int.toNat_natCast n).trans (List.map_id l)
theorem row_ints (n : Nat) (r : List Nat) : PyFlat.row (inz (n :: r)) = if n ≤ r.length then some (inz (r.take n), inz (r.drop n)) else none := by
  show (if 0 ≤ (n : Int) ∧ ((n : Int)).toNat ≤ (inz r).length then some ((inz r).take ((n : Int)).toNat, (inz r).drop ((n : Int)).toNat) else none) = _
  rw [ints_len, Int.toNat_natCast]
  by_cases h : n ≤ r.length
  · rw [if_pos ⟨by omega, h⟩, if_pos h]
    show some ((r.map _).take n, (r.map _).drop n) = some ((r.take n).map _, (r.drop n).map _)
    rw [List.map_take, List.map_drop]
  · rw [if_neg (fun q => h q.2), if_neg h]
theorem rows_ints : ∀ (k : Nat) (l : List Nat), PyFlat.rows k (inz l) = (rowsN k l).map fun q => (q.1.map inz, inz q.2)
  | 0, l => rfl
  | k + 1, [] => rfl
  | k + 1, n :: r => by
    show (match PyFlat.row (inz (n :: r)) with
      | none => none
      | some (x, s) => match PyFlat.rows k s with
        | none => none
        | some (xs, t) => some (x :: xs, t)) = ((if n ≤ r.length then (rowsN k (r.drop n)).map fun p => (r.take n :: p.1, p.2) else none : Option (List (List Nat) × List Nat)).map fun q => (q.1.map inz, inz q.2))
    rw [row_ints]
    by_cases h : n ≤ r.length
    · rw [if_pos h, if_pos h]
      show (match PyFlat.rows k (inz (r.drop n)) with
        | none => none
        | some (xs, t) => some (inz (r.take n) :: xs, t)) = _
      rw [rows_ints k (r.drop n)]
      cases rowsN k (r.drop n) with
      | none => rfl
      | some q => rfl
    · rw [if_neg h, if_neg h]
      rfl
theorem rows_le : ∀ {k : Nat} {l : List Nat} {rows : List (List Nat)} {u : List Nat}, rowsN k l = some (rows, u) → rows.length ≤ l.length ∧ (∀ r ∈ rows, r.length ≤ l.length) ∧ u.length ≤ l.length ∧ k ≤ l.length ∧ u = l.drop (l.length - u.length)
  | 0, l, rows, u, h => by
    have e : (([] : List (List Nat)), l) = (rows, u) := Option.some.inj h
    cases e
    exact ⟨Nat.zero_le _, (fun r hr => by cases hr), Nat.le_refl _, Nat.zero_le _, by rw [Nat.sub_self]; rfl⟩
  | k + 1, [], _, _, h => by cases h
  | k + 1, n :: r, rows, u, h => by
    have h : (if n ≤ r.length then (rowsN k (r.drop n)).map fun p => (r.take n :: p.1, p.2) else none) = some (rows, u) := h
    by_cases c1 : n ≤ r.length
    · rw [if_pos c1] at h
      cases e : rowsN k (r.drop n) with
      | none => rw [e] at h; cases h
      | some q =>
        rw [e] at h
        obtain ⟨xs, t⟩ := q
        have e2 : (r.take n :: xs, t) = (rows, u) := Option.some.inj h
        cases e2
        obtain ⟨h1, h2, h3, h4, h5⟩ := rows_le e
        rw [List.length_drop] at h1 h2 h3 h4 h5
        simp only [List.length_cons]
        refine ⟨by omega, fun y hy => ?_, by omega, by omega, ?_⟩
        · rcases List.mem_cons.mp hy with rfl | hy
          · rw [List.length_take]
            omega
          · have := h2 y hy
            omega
        · rw [h5]
          rw [List.drop_drop, List.length_drop, show r.length + 1 - (r.length - (n + (r.length - n - u.length))) = (n + (r.length - n - u.length)) + 1 by omega]
          rfl
    · rw [if_neg c1] at h
      cases h
theorem calls_inv {f p : Nat} {r : List Nat} {cs : List (List (List Int))} (h : PyWide.calls f (inz (p :: r)) = some cs) : ∃ (f' n : Nat) (r2 : List Nat) (k : Nat) (t : List Nat) (rows : List (List Nat)) (u : List Nat) (cs' : List (List (List Int))),
    r = n :: r2 ∧ n ≤ r2.length ∧ r2.drop n = k :: t ∧ rowsN k t = some (rows, u) ∧ PyWide.calls f' (inz u) = some cs' ∧ cs = (inz (p :: r2.take n) :: rows.map inz) :: cs' := by
  cases f with
  | zero => cases h
  | succ f =>
    have h : (match PyWide.call (inz (p :: r)) with
      | none => none
      | some (c, t) => match PyWide.calls f t with
        | none => none
        | some cs => some (c :: cs)) = some cs := h
    cases hc : PyWide.call (inz (p :: r)) with
    | none => rw [hc] at h; cases h
    | some q =>
      rw [hc] at h
      obtain ⟨c, t'⟩ := q
      have hc : (match PyFlat.row (inz r) with
        | none => none
        | some (_, []) => none
        | some (ns, k :: t) => if 0 ≤ k then (match PyFlat.rows k.toNat t with
          | none => none
          | some (xs, u) => some (((p : Int) :: ns) :: xs, u)) else none) = some (c, t') := hc
      cases r with
      | nil => cases hc
      | cons n r2 =>
        rw [row_ints] at hc
        by_cases c1 : n ≤ r2.length
        · rw [if_pos c1] at hc
          cases e : r2.drop n with
          | nil => rw [e] at hc; cases hc
          | cons k t =>
            rw [e] at hc
            have hc : (if 0 ≤ (k : Int) then (match PyFlat.rows ((k : Int)).toNat (inz t) with
              | none => none
              | some (xs, u) => some (((p : Int) :: inz (r2.take n)) :: xs, u)) else none) = some (c, t') := hc
            rw [if_pos (by omega), Int.toNat_natCast, rows_ints] at hc
            cases e2 : rowsN k t with
            | none => rw [e2] at hc; cases hc
            | some q =>
              rw [e2] at hc
              obtain ⟨rows, u⟩ := q
              have e3 : (((p : Int) :: inz (r2.take n)) :: rows.map inz, inz u) = (c, t') := Option.some.inj hc
              cases e3
              cases e4 : PyWide.calls f (inz u) with
              | none =>
                have h : (match PyWide.calls f (inz u) with
                  | none => none
                  | some cs => some ((((p : Int) :: inz (r2.take n)) :: rows.map inz) :: cs)) = some cs := h
                rw [e4] at h
                cases h
              | some cs' =>
                have h : (match PyWide.calls f (inz u) with
                  | none => none
                  | some cs => some ((((p : Int) :: inz (r2.take n)) :: rows.map inz) :: cs)) = some cs := h
                rw [e4] at h
                exact ⟨f, n, r2, k, t, rows, u, cs', rfl, c1, e, e2, e4, (Option.some.inj h).symm⟩
        · rw [if_neg c1] at hc
          cases hc

/-! ## what a call is -/
theorem widths_of : ∀ (l : List Nat), l.length % 4 = 0 → ∃ x, CoNeutral.widthsOf l = some x ∧ wN x = l
  | [], _ => ⟨[], rfl, rfl⟩
  | [_], h => by simp at h
  | [_, _], h => by simp at h
  | [_, _, _], h => by simp at h
  | a :: b :: w :: k :: l, h => by
    obtain ⟨x, h1, h2⟩ := widths_of l (by simp only [List.length_cons] at h; omega)
    refine ⟨⟨a, b, w, k⟩ :: x, ?_, ?_⟩
    · show (CoNeutral.widthsOf l).map _ = _
      rw [h1]
      rfl
    · show [a, b, w, k] ++ wN x = _
      rw [h2]
      rfl
theorem pars_of : ∀ (rows : List (List Nat)), (∀ r ∈ rows, 3 ≤ r.length) → ∃ ps : List Par, rows = ps.map (fun (p : Par) => p.depth :: p.group :: p.lead :: p.text) ∧ (rows.map inz).mapM (fun (r : List Int) => CoNeutral.parOf (CoNeutral.nats r)) = some ps
  | [], _ => ⟨[], rfl, rfl⟩
  | r :: rows, h => by
    obtain ⟨ps, h1, h2⟩ := pars_of rows fun y hy => h y (List.mem_cons_of_mem _ hy)
    have h3 := h r List.mem_cons_self
    match r, h3 with
    | d :: g :: l :: t, _ =>
      refine ⟨⟨d, g, l, t⟩ :: ps, by rw [h1]; rfl, ?_⟩
      rw [List.map_cons, List.mapM_cons, h2]
      show (CoNeutral.parOf (natz (inz (d :: g :: l :: t)))).bind _ = _
      rw [nats_ints]
      rfl
theorem whole_ints (rows : List (List Nat)) : CoNeutral.whole (rows.map inz) = true := by
  unfold CoNeutral.whole
  rw [List.all_eq_true]
  intro r hr
  obtain ⟨l, _, rfl⟩ := List.mem_map.mp hr
  rw [List.all_eq_true]
  intro z hz
  obtain ⟨n, _, rfl⟩ := List.mem_map.mp hz
  exact decide_eq_true (Int.natCast_nonneg n)
theorem ints_cons {n : Nat} {l : List Nat} {z : Int} {r : List Int} (h : inz (n :: l) = z :: r) : (n : Int) = z ∧ inz l = r := List.cons.inj h
theorem ints_inv {l : List Nat} {z : Int} {r : List Int} (h : inz l = z :: r) : ∃ n l', l = n :: l' ∧ (n : Int) = z ∧ inz l' = r := by
  cases l with
  | nil => cases h
  | cons n l' => exact ⟨n, l', rfl, List.cons.inj h⟩
theorem ints_nil {l : List Nat} (h : inz l = []) : l = [] := List.map_eq_nil_iff.mp h
theorem map_inv {rows : List (List Nat)} {z : List Int} {r : List (List Int)} (h : rows.map inz = z :: r) : ∃ n l', rows = n :: l' ∧ inz n = z ∧ l'.map inz = r := by
  cases rows with
  | nil => cases h
  | cons n l' => exact ⟨n, l', rfl, List.cons.inj h⟩
theorem asked_told {p : Nat} {nums : List Nat} {rows : List (List Nat)} (h : CoNeutral.asked1 (inz (p :: nums) :: rows.map inz) = true) (h1 : rows.length ≤ 100000) (h2 : ∀ r ∈ rows, r.length ≤ 100000) :
    ∃ k, CoNeutral.callOf (inz (p :: nums) :: rows.map inz) = some k ∧ Told p nums rows k := by
  have hw : CoNeutral.whole (inz (p :: nums) :: rows.map inz) = true := whole_ints ((p :: nums) :: rows)
  have hc : CoNeutral.callOf (inz (p :: nums) :: rows.map inz) = (match (inz (p :: nums) :: rows.map inz : List (List Int)) with
    | [[1, w, h, a, b, c, t, g], ws, cut] => (CoNeutral.widthsOf (natz ws)).map fun (x : List IhColumn.Width) => IhColumns.Call.sheet ⟨w.toNat, h.toNat, natz [a, b, c], t.toNat, g.toNat⟩ x (natz cut)
    | [2] :: ps => (ps.mapM fun (r : List Int) => CoNeutral.parOf (natz r)).map fun (x : List Par) => .set x
    | [[3, i]] => some (.line i.toNat)
    | [[4, p, x]] => some (.where_ p.toNat x.toNat)
    | [[5]] => some .columns
    | _ => none) := by
    unfold CoNeutral.callOf
    rw [hw]
    rfl
  rw [hc]
  generalize hC : (inz (p :: nums) :: rows.map inz : List (List Int)) = C at h
  unfold CoNeutral.asked1 at h
  split at h
  · rename_i w hh a b cc t g ws cut
    obtain ⟨e1, e2⟩ := List.cons.inj hC
    obtain ⟨hp, e3⟩ := ints_cons e1
    obtain ⟨x1, l1, rfl, rfl, e4⟩ := ints_inv e3
    obtain ⟨x2, l2, rfl, rfl, e5⟩ := ints_inv e4
    obtain ⟨x3, l3, rfl, rfl, e6⟩ := ints_inv e5
    obtain ⟨x4, l4, rfl, rfl, e7⟩ := ints_inv e6
    obtain ⟨x5, l5, rfl, rfl, e8⟩ := ints_inv e7
    obtain ⟨x6, l6, rfl, rfl, e9⟩ := ints_inv e8
    obtain ⟨x7, l7, rfl, rfl, e10⟩ := ints_inv e9
    have e11 := ints_nil e10
    obtain ⟨r1, m1, rfl, rfl, e12⟩ := map_inv e2
    obtain ⟨r2, m2, rfl, rfl, e13⟩ := map_inv e12
    have e14 : m2 = [] := List.map_eq_nil_iff.mp e13
    subst e11 e14
    have ep : p = 1 := by omega
    subst ep
    simp only [Bool.and_eq_true] at h
    have hr : r1.length % 4 = 0 := by
      have := h.2.2.2.2.2.2.2.1
      unfold CoNeutral.widthRow at this
      rw [Bool.and_eq_true, beq_iff_eq, ints_len] at this
      exact this.1
    obtain ⟨xs, hx1, hx2⟩ := widths_of r1 hr
    subst hx2
    have l1 := h2 (wN xs) List.mem_cons_self
    rw [wN_len] at l1
    have l2 := h2 r2 (List.mem_cons_of_mem _ List.mem_cons_self)
    refine ⟨.sheet ⟨x1, x2, [x3, x4, x5], x6, x7⟩ xs r2, ?_, Told.sheet x1 x2 x3 x4 x5 x6 x7 xs r2 (by omega) (by omega)⟩
    show (CoNeutral.widthsOf (natz (inz (wN xs)))).map _ = _
    rw [nats_ints (wN xs), hx1]
    show some (IhColumns.Call.sheet ⟨_, _, _, _, _⟩ xs (natz (inz r2))) = _
    rw [nats_ints]
    rfl
  · rename_i ps
    obtain ⟨e1, e2⟩ := List.cons.inj hC
    obtain ⟨hp, e3⟩ := ints_cons e1
    have e4 := ints_nil e3
    subst e4 e2
    have ep : p = 2 := by omega
    subst ep
    rw [List.all_eq_true] at h
    obtain ⟨ps, h3, h4⟩ := pars_of rows fun r hr => by
      have := h (inz r) (List.mem_map.mpr ⟨r, hr, rfl⟩)
      rw [Bool.and_eq_true, decide_eq_true_eq, ints_len] at this
      exact this.1
    subst h3
    rw [List.length_map] at h1
    refine ⟨.set ps, ?_, Told.set ps (by omega) fun q hq => ?_⟩
    · have h4 : ((ps.map (fun (p : Par) => p.depth :: p.group :: p.lead :: p.text)).map inz).mapM (fun (r : List Int) => CoNeutral.parOf (natz r)) = some ps := h4
      show Option.map (fun (x : List Par) => IhColumns.Call.set x) (((ps.map (fun (p : Par) => p.depth :: p.group :: p.lead :: p.text)).map inz).mapM (fun (r : List Int) => CoNeutral.parOf (natz r))) = _
      rw [h4]
      rfl
    · have := h2 (q.depth :: q.group :: q.lead :: q.text) (List.mem_map.mpr ⟨q, hq, rfl⟩)
      simp only [List.length_cons] at this
      omega
  · rename_i i
    obtain ⟨e1, e2⟩ := List.cons.inj hC
    obtain ⟨hp, e3⟩ := ints_cons e1
    obtain ⟨x1, l1, rfl, rfl, e4⟩ := ints_inv e3
    have e5 := ints_nil e4
    have e6 : rows = [] := List.map_eq_nil_iff.mp e2
    subst e5 e6
    have ep : p = 3 := by omega
    subst ep
    exact ⟨.line x1, rfl, Told.line x1⟩
  · rename_i i j
    obtain ⟨e1, e2⟩ := List.cons.inj hC
    obtain ⟨hp, e3⟩ := ints_cons e1
    obtain ⟨x1, l1, rfl, rfl, e4⟩ := ints_inv e3
    obtain ⟨x2, l2, rfl, rfl, e5⟩ := ints_inv e4
    have e6 := ints_nil e5
    have e7 : rows = [] := List.map_eq_nil_iff.mp e2
    subst e6 e7
    have ep : p = 4 := by omega
    subst ep
    exact ⟨.where_ x1 x2, rfl, Told.where_ x1 x2⟩
  · obtain ⟨e1, e2⟩ := List.cons.inj hC
    obtain ⟨hp, e3⟩ := ints_cons e1
    have e4 := ints_nil e3
    have e7 : rows = [] := List.map_eq_nil_iff.mp e2
    subst e4 e7
    have ep : p = 5 := by omega
    subst ep
    exact ⟨.columns, rfl, Told.columns⟩
  · cases h

/-! ## the state stays good -/
theorem good_start : Good IhColumns.start := by
  refine ⟨?_, ?_, ?_, ?_, ?_, ?_⟩
  · exact Nat.zero_le _
  · exact Nat.zero_le _
  · exact Nat.zero_le _
  · intro l hl
    cases hl
  · intro p hp
    cases hp
  · intro l hl
    cases hl
theorem good_new (s : She) (h1 : s.cut.length ≤ 64) (h2 : s.widths.length ≤ 256) : Good ⟨s, [], []⟩ := by
  refine ⟨h1, h2, Nat.zero_le _, ?_, ?_, ?_⟩
  · intro l hl
    cases hl
  · intro p hp
    cases hp
  · intro l hl
    cases hl
theorem good_step {d : Stt} (G : Good d) (k : IhColumns.Call) : Good (IhColumns.step d k).1 := by
  cases k with
  | sheet h ws cut =>
    rw [step_sheet]
    by_cases c1 : refusal ⟨h, ws, cut⟩ = 0
    · rw [if_pos c1]
      have c2 : ¬ (h.height < 3 ∨ 1000 < h.height ∨ 100 < h.gap ∨ 1000000 < h.width ∨ 256 < ws.length ∨ 64 < cut.length) := fun q => by
        unfold refusal at c1
        rw [if_pos q] at c1
        cases c1
      exact good_new ⟨h, ws, cut⟩ (show cut.length ≤ 64 by omega) (show ws.length ≤ 256 by omega)
    · rw [if_neg c1]
      exact G
  | set ps =>
    show Good (d.printed ps).1
    unfold IhColumns.State.printed
    cases hw : IhColumns.wrong 0 0 ps with
    | some i => exact G
    | none =>
      show Good (if IhColumns.CHARS < (ps.map fun (p : Par) => p.text.length).sum then (d, IhColumns.Answer.refused 7) else match ps.findIdx? fun (p : Par) => p.text.all d.sheet.blank with
        | some i => (d, .refusedAt 6 i)
        | none => match d.sheet.columns ps with
          | .error i => (d, .refusedAt 5 i)
          | .ok ls => if IhColumns.LINES < ls.length then (d, .refused 4) else ({ d with pars := ps, lines := ls }, .number ls.length)).1
      by_cases c1 : IhColumns.CHARS < (ps.map fun (p : Par) => p.text.length).sum
      · rw [if_pos c1]
        exact G
      · rw [if_neg c1]
        cases hb : ps.findIdx? (fun (p : Par) => p.text.all d.sheet.blank) with
        | some i => exact G
        | none =>
          show Good (match d.sheet.columns ps with
            | .error i => (d, IhColumns.Answer.refusedAt 5 i)
            | .ok ls => if IhColumns.LINES < ls.length then (d, .refused 4) else ({ d with pars := ps, lines := ls }, .number ls.length)).1
          cases hn : (ps.map d.sheet.lines).findIdx? (fun o => o.isNone) with
          | some i =>
            rw [columns_no hn]
            exact G
          | none =>
            obtain ⟨lss, hlss⟩ := all_some hn
            rw [columns_ok hlss]
            show Good (if IhColumns.LINES < (setAll d.sheet ps lss).done.reverse.length then (d, IhColumns.Answer.refused 4) else ({ d with pars := ps, lines := (setAll d.sheet ps lss).done.reverse }, .number (setAll d.sheet ps lss).done.reverse.length)).1
            by_cases c2 : IhColumns.LINES < (setAll d.sheet ps lss).done.reverse.length
            · rw [if_pos c2]
              exact G
            · rw [if_neg c2]
              have N := setAll_nice (s := d.sheet) (lss := lss) (right_one hw)
              refine ⟨G.cut, G.wid, Nat.le_of_not_lt c2, fun l hl => (N.all l (List.mem_reverse.mp hl)).2, fun p hp => ?_, fun l hl => nice_max N hl⟩
              obtain ⟨d', hd'⟩ := right_all hw p hp
              exact (right_in hd').2.2.1
  | line i => exact G
  | where_ p x => exact G
  | columns => exact G
end HC

/-! # headcolumns: readings, part E3: answer, lists_at, answers -/
namespace HC
open PySem PySem.Spec PyProof.Rows L2
variable {K : PySem.W.Frag} {c : CA}
section
variable {u v w : V}
theorem no_m1 : (seF u v w).lookup ("take_sheet" : Str) = none := (lk_past (by decide +kernel)).trans ((lk_past (by decide +kernel)).trans ((lk_past (by decide +kernel)).trans rfl))
theorem no_m2 : (seF u v w).lookup ("take_paragraphs" : Str) = none := (lk_past (by decide +kernel)).trans ((lk_past (by decide +kernel)).trans ((lk_past (by decide +kernel)).trans rfl))
theorem no_m3 : (seF u v w).lookup ("tell_line" : Str) = none := (lk_past (by decide +kernel)).trans ((lk_past (by decide +kernel)).trans ((lk_past (by decide +kernel)).trans rfl))
theorem no_m4 : (seF u v w).lookup ("tell_where" : Str) = none := (lk_past (by decide +kernel)).trans ((lk_past (by decide +kernel)).trans ((lk_past (by decide +kernel)).trans rfl))
theorem no_m5 : (seF u v w).lookup ("tell_columns" : Str) = none := (lk_past (by decide +kernel)).trans ((lk_past (by decide +kernel)).trans ((lk_past (by decide +kernel)).trans rfl))
end
theorem p_answer (T : Kf K c) {vs : List V} {H : Hp} {Q : VK} {E : XK} (h : sp_answer K c vs H Q E) : t_answer K c (sp_Setter_tell_columns K c) (sp_Setter_take_sheet K c) (sp_Setter_take_paragraphs K c) (sp_Setter_tell_line K c) (sp_Setter_tell_where K c) { nx := fun _ H' => Q .non H', rt := Q } (start N_answer vs) H := by
  obtain ⟨x, an, vl, d, p, xs, rows, k, rfl, hx, G, hn, hl, ht, kk⟩ := h
  obtain ⟨dx, va, vb, vc, h0, _⟩ := id hx
  have h0' : H x = some (.ins c.se dx (seF va vb vc)) := h0
  have no : ∀ {a b : Nat}, ¬ a = b → decide (nv a = V.int (b : Int)) = false := fun {a b} q => by
    rw [show V.int (b : Int) = nv b from rfl, dec_nv]
    simp [q]
  cases ht with
  | sheet w h i1 i2 i3 t g ws cut h1 h2 =>
    refine ⟨_, rfl, rfl, _, rfl, if_tt rfl ?_⟩
    exact ⟨_, rfl, x, dx, _, rfl, h0', no_m1, _, rfl, _, rfl, x, an, vl, d, w, h, i1, i2, i3, t, g, ws, cut, rfl, hx, hn, hl, h1, h2, kk⟩
  | set ps h1 h2 =>
    refine ⟨_, rfl, rfl, _, rfl, if_ff (no (by decide)) ?_⟩
    refine ⟨_, rfl, rfl, _, rfl, if_tt rfl ?_⟩
    exact ⟨_, rfl, x, dx, _, rfl, h0', no_m2, _, rfl, _, rfl, x, .ref an, vl, d, ps, rfl, hx, G, hl, h1, h2, kk⟩
  | line i =>
    refine ⟨_, rfl, rfl, _, rfl, if_ff (no (by decide)) ?_⟩
    refine ⟨_, rfl, rfl, _, rfl, if_ff (no (by decide)) ?_⟩
    refine ⟨_, rfl, rfl, _, rfl, if_tt rfl ?_⟩
    exact ⟨_, rfl, x, dx, _, rfl, h0', no_m3, _, rfl, _, rfl, x, an, vl, d, i, rfl, hx, G, hn, kk⟩
  | where_ q i =>
    refine ⟨_, rfl, rfl, _, rfl, if_ff (no (by decide)) ?_⟩
    refine ⟨_, rfl, rfl, _, rfl, if_ff (no (by decide)) ?_⟩
    refine ⟨_, rfl, rfl, _, rfl, if_ff (no (by decide)) ?_⟩
    refine ⟨_, rfl, rfl, _, rfl, if_tt rfl ?_⟩
    exact ⟨_, rfl, x, dx, _, rfl, h0', no_m4, _, rfl, _, rfl, x, an, vl, d, q, i, rfl, hx, hn, kk⟩
  | columns =>
    refine ⟨_, rfl, rfl, _, rfl, if_ff (no (by decide)) ?_⟩
    refine ⟨_, rfl, rfl, _, rfl, if_ff (no (by decide)) ?_⟩
    refine ⟨_, rfl, rfl, _, rfl, if_ff (no (by decide)) ?_⟩
    refine ⟨_, rfl, rfl, _, rfl, if_ff (no (by decide)) ?_⟩
    exact ⟨_, rfl, x, dx, _, rfl, h0', no_m5, _, rfl, _, rfl, x, .ref an, vl, d, rfl, hx, G, kk⟩

theorem get_drop {α : Type} {l : List α} {i : Nat} {x : α} {r : List α} (h : l.drop i = x :: r) : l[i]? = some x ∧ l.drop (i + 1) = r ∧ i + r.length + 1 = l.length := by
  have hi : i < l.length := by
    rcases Nat.lt_or_ge i l.length with q | q
    · exact q
    · rw [List.drop_of_length_le q] at h
      cases h
  rw [List.drop_eq_getElem_cons hi] at h
  obtain ⟨e1, e2⟩ := List.cons.inj h
  refine ⟨by rw [List.getElem?_eq_getElem hi, e1], e2, ?_⟩
  have := congrArg List.length e2
  rw [List.length_drop] at this
  omega
theorem rowsN_succ {m : Nat} {l : List Nat} {rows : List (List Nat)} {u : List Nat} (h : rowsN (m + 1) l = some (rows, u)) : ∃ n r xs, l = n :: r ∧ n ≤ r.length ∧ rowsN m (r.drop n) = some (xs, u) ∧ rows = r.take n :: xs := by
  cases l with
  | nil => cases h
  | cons n r =>
    have h : (if n ≤ r.length then (rowsN m (r.drop n)).map fun p => (r.take n :: p.1, p.2) else none) = some (rows, u) := h
    by_cases c1 : n ≤ r.length
    · rw [if_pos c1] at h
      cases e : rowsN m (r.drop n) with
      | none => rw [e] at h; cases h
      | some q =>
        rw [e] at h
        obtain ⟨xs, t⟩ := q
        obtain ⟨e1, e2⟩ := Prod.mk.inj (Option.some.inj (show some (r.take n :: xs, t) = some (rows, u) from h))
        exact ⟨n, r, xs, rfl, c1, by rw [e, e2], e1.symm⟩
    · rw [if_neg c1] at h
      cases h
theorem p_lists_at (T : Kf K c) {vs : List V} {H : Hp} {Q : VK} {E : XK} (h : sp_lists_at K c vs H Q E) : t_lists_at K c { nx := fun _ H' => Q .non H', rt := Q } (start N_lists_at vs) H := by
  obtain ⟨a, ns, i, k, r, u, rows, rfl, hns, hlen, hd, hk, hrows, kk⟩ := h
  obtain ⟨g1, g2, g3⟩ := get_drop hd
  refine ⟨by show 0 ≤ sizeLine; decide, fun l nl => ?_⟩
  have s0 : Same H (upd H l (.lst [])) := Same.newUpd nl
  refine ⟨_, rfl, _, _, rfl, rfl, ?_⟩
  refine ⟨_, rfl, _, rfl, a, _, _, _, rfl, rfl, Same.seq s0 hns, at_nvs (i := i) rfl g1, (k : Int), rfl, by omega, by omega, ?_⟩
  refine for_range (lo := 0) (n := k) (fun j σ H' => ∃ (rj : List Nat) (acc rest : List (List Nat)) (o1 o2 : Option V), σ = [some (.ref a), some (nv i), some (.ref l), some (nv (ns.length - rj.length)), o1, o2] ∧ Same H H' ∧ Grow NsR H H' l acc ∧ rj.length ≤ ns.length ∧ ns.drop (ns.length - rj.length) = rj ∧
    rowsN (k - j) rj = some (rest, u) ∧ rows = acc ++ rest ∧ acc.length ≤ j) ⟨r, [], rows, none, none, ?_, s0, Grow.nil nl upd_same, by omega, by (have e : ns.length - r.length = i + 1 := by omega); rw [e]; exact g2, hrows, rfl, Nat.le_refl _⟩ ?_ ?_
  · have e : V.int ((i : Int) + 1) = nv (ns.length - r.length) := by
      unfold nv
      congr 1
      omega
    show [some (V.ref a), some (nv i), some (V.ref l), some (V.int ((i : Int) + 1)), none, none] = _
    rw [e]
  · rintro j σ H' hj ⟨rj, acc, rest, o1, o2, rfl, s1, gr, hl, hdj, hr, hrw, hac⟩
    rw [show k - j = (k - (j + 1)) + 1 by omega] at hr
    obtain ⟨n, r2, xs, rfl, hn, hx, rfl⟩ := rowsN_succ hr
    obtain ⟨q1, q2, q3⟩ := get_drop hdj
    generalize hp : ns.length - (n :: r2).length = p at q1 q2 q3
    have hns1 := Same.seq s1 hns
    obtain ⟨_, vs1, hl1, el1, _⟩ := id gr
    refine ⟨_, rfl, _, _, rfl, rfl, _, rfl, _, rfl, a, _, _, _, rfl, rfl, hns1, at_nvs (i := p) rfl q1, _, _, rfl, rfl, ?_⟩
    refine ⟨_, rfl, .inl ⟨rfl, _, SqL.of hl1⟩, _, rfl, _, rfl, _, _, rfl, rfl, _, rfl, _, rfl, _, rfl, a, _, rfl, hns1, fun q nq => ?_⟩
    have ec : cutV (nvs ns) (some ((p : Int) + 1)) (some ((p : Int) + 1 + (n : Int))) = nvs (r2.take n) := by
      rw [cut_of (a := p + 1) (b := p + 1 + n) (by congr 1) (by congr 1) (by omega) (by rw [nvs_len]; omega)]
      unfold nvs
      rw [← List.map_drop, ← List.map_take, q2]
      congr 2
      omega
    have nq : H' q = none := nq
    have s2 : Same H' (upd H' q (.lst (cutV (nvs ns) (some ((p : Int) + 1)) (some ((p : Int) + 1 + (n : Int)))))) := Same.newUpd nq
    have gr2 := Grow.same NsR.mono s2 gr
    have ql : q ≠ l := (ne_of_none hl1 nq).symm
    refine ⟨l, vs1, _, rfl, rfl, s2 _ _ hl1, ?_, ?_⟩
    · rw [el1]
      exact Nat.lt_of_le_of_lt (Nat.le_trans hac (Nat.le_trans (Nat.le_of_lt hj) hk)) (by decide)
    · refine ⟨_, rfl, r2.drop n, acc ++ [r2.take n], xs, some (.int (0 + (j : Int))), some (.int ((p : Int) + 1 + (n : Int))), ?_, Same.mut (Same.trans s1 s2) nl, Grow.push NsR.mono gr2 (s2 _ _ hl1) ⟨q, rfl, hide_some.mpr ⟨ql, new_some.mpr ⟨Same.free s1 nq, ?_⟩⟩⟩, ?_, ?_, hx, ?_, ?_⟩
      · have e : V.int ((p : Int) + 1 + (n : Int)) = nv (ns.length - (r2.drop n).length) := by
          unfold nv
          rw [List.length_drop]
          congr 1
          omega
        show [some (V.ref a), some (nv i), some (V.ref l), some (V.int ((p : Int) + 1 + (n : Int))), some (V.int (0 + (j : Int))), some (V.int ((p : Int) + 1 + (n : Int)))] = _
        rw [e]
      · rw [← ec]
        exact upd_same
      · rw [List.length_drop]
        omega
      · rw [List.length_drop, show ns.length - (r2.length - n) = (p + 1) + n by omega, ← List.drop_drop, q2]
      · rw [hrw, List.append_assoc]
        rfl
      · rw [List.length_append]
        show acc.length + 1 ≤ j + 1
        omega
  · rintro σ H' ⟨rj, acc, rest, o1, o2, rfl, s1, gr, hl, hdj, hr, hrw, hac⟩
    rw [Nat.sub_self] at hr
    obtain ⟨e1, e2⟩ := Prod.mk.inj (Option.some.inj (show some (([] : List (List Nat)), rj) = some (rest, u) from hr))
    subst e1 e2
    rw [List.append_nil] at hrw
    subst hrw
    refine ⟨_, rfl, _, rfl, by show 2 ≤ sizeLine; decide, fun t nt => ?_⟩
    have s2 := Same.newUpd (o := .tup [.ref l, nv (ns.length - rj.length)]) nt
    exact kk _ (.ref l) t _ (Same.trans s1 s2) rfl upd_same ((LsR.mono NsR.mono).up (Same.trans Same.new s2) (Grow.done NsR.mono gr))

theorem p_answers (T : Kf K c) {vs : List V} {H : Hp} {Q : VK} {E : XK} (h : sp_answers K c vs H Q E) : t_answers K c (sp_Setter_init K c) (sp_lists_at K c) (sp_answer K c) { nx := fun _ H' => Q .non H', rt := Q } (start N_answers vs) H := by
  obtain ⟨a, ns, rfl, hns, hlen, hpos, hask, k⟩ := h
  obtain ⟨nn, rfl⟩ : ∃ nn : List Nat, ns = inz nn := ⟨ns.map Int.toNat, by
    show ns = (ns.map Int.toNat).map (fun (n : Nat) => (n : Int))
    rw [List.map_map]
    have : ∀ z ∈ ns, ((fun (n : Nat) => (n : Int)) ∘ Int.toNat) z = id z := fun z hz => Int.toNat_of_nonneg (hpos z hz)
    rw [List.map_congr_left this, List.map_id]⟩
  rw [ints_len] at hlen
  have hnn : SqL K H a (nvs nn) := by
    rw [← nvs_ints]
    exact hns
  -- what is asked
  unfold PyWqakbg.answers_asked at hask
  cases hcs : PyWqakbg.calls (inz nn) with
  | none => rw [hcs] at hask; cases hask
  | some cs =>
    rw [hcs] at hask
    simp only [Bool.and_eq_true] at hask
    obtain ⟨⟨⟨⟨_, _⟩, _⟩, hA⟩, hS⟩ := hask
    have hall : cs.all CoNeutral.asked1 = true := by
      unfold CoNeutral.asked at hA
      rw [Bool.and_eq_true] at hA
      exact hA.2
    have hans : PyWqakbg.answers (inz nn) = PyFlat.told (PyFlat.played CoNeutral.step CoNeutral.start cs) := by
      unfold PyWqakbg.answers
      rw [hcs]
    have hshort : (PyWqakbg.answers (inz nn)).length ≤ 10000000 := of_decide_eq_true hS
    intro x dx nx ndx ne
    have s0 : Same H (Hide (upd (upd H dx (.own x)) x (.ins c.se dx [])) x) := Same.newMake (H1 := H) nx ndx
    refine ⟨x, dx, rfl, upd_same, fun H1 s1 hx1 => ⟨rfl, ?_⟩⟩
    have s01 := Same.trans s0 s1
    refine ⟨by show 0 ≤ sizeLine; decide, fun f nf => ?_⟩
    have s2 : Same H1 (upd H1 f (.lst [])) := Same.newUpd nf
    refine ⟨fun m σ H' => ∃ (rest : List Nat) (cs' : List (List (List Int))) (d : Stt) (out : List Int) (f : Addr) (n : Nat) (o4 o5 o6 o7 o8 : Option V), m = rest.length ∧ σ = [some (.ref a), some (.ref x), some (.ref f), some (nv (nn.length - rest.length)), o4, o5, o6, o7, o8] ∧
      nn.drop (nn.length - rest.length) = rest ∧ rest.length ≤ nn.length ∧ SqL K H' a (nvs nn) ∧ SttAt c H' x d ∧ Good d ∧ H' f = some (.lst (out.map V.int)) ∧ PyWide.calls n (inz rest) = some cs' ∧ cs'.all CoNeutral.asked1 = true ∧
      out ++ PyFlat.told (PyFlat.played CoNeutral.step d cs') = PyWqakbg.answers (inz nn), ⟨_, nn, cs, IhColumns.start, [], f, (inz nn).length, none, none, none, none, none, rfl, ?_, ?_, Nat.le_refl _, Same.seq (Same.trans s01 s2) hnn, hx1.same s2, good_start, upd_same, hcs, hall, hans.symm⟩, ?_⟩
    · rw [Nat.sub_self]
      rfl
    · rw [Nat.sub_self]
      rfl
    rintro m σ H2 ⟨rest, cs', d, out, f, n, o4, o5, o6, o7, o8, rfl, rfl, hd, hle, hsq, hx, G, hf, hc, hal, hout⟩
    refine ⟨_, rfl, _, rfl, a, _, rfl, .inl hsq, _, _, rfl, rfl, _, rfl, ?_⟩
    rw [nvs_len]
    cases rest with
    | nil =>
      refine if_ff (decide_eq_false (by show ¬ (((nn.length - 0 : Nat) : Int) < (nn.length : Int)); omega)) ?_
      have ec : cs' = [] := by
        cases n with
        | zero => exact (Option.some.inj (show some ([] : List (List (List Int))) = some cs' from hc)).symm
        | succ n => exact (Option.some.inj (show some ([] : List (List (List Int))) = some cs' from hc)).symm
      subst ec
      refine ⟨_, rfl, k _ f ?_⟩
      rw [hf, ← hout]
      show some (HO.lst (out.map V.int)) = some (HO.lst ((out ++ []).map V.int))
      rw [List.append_nil]
    | cons p r =>
      obtain ⟨q1, q2, q3⟩ := get_drop hd
      generalize hP : nn.length - (p :: r).length = P at q1 q2 q3
      refine if_tt (decide_eq_true (by omega)) ⟨_, fun _ _ h => h, ?_⟩
      obtain ⟨n', w, r2, kk, t, rows, u, cs2, rfl, hw, hdr, hrows, hc2, rfl⟩ := calls_inv hc
      obtain ⟨w1, w2, w3⟩ := get_drop q2
      have hrl := rows_le hrows
      have hkt : kk :: t = r2.drop w := hdr.symm
      have hdl : t.length + 1 = r2.length - w := by
        have := congrArg List.length hdr
        rw [List.length_drop, List.length_cons] at this
        omega
      rw [List.all_cons, Bool.and_eq_true] at hal
      obtain ⟨call, hcall, htold⟩ := asked_told hal.1 (by omega) (fun y hy => by have := hrl.2.1 y hy; omega)
      -- behind = at + 2 + calls[at + 1]
      refine ⟨_, rfl, _, _, rfl, rfl, _, rfl, _, rfl, _, _, rfl, rfl, a, _, _, _, rfl, rfl, hsq, at_nvs (i := P + 1) (by omega) w1, _, _, rfl, rfl, ?_⟩
      have eb : V.int ((P : Int) + 2 + (w : Int)) = nv (P + 2 + w) := rfl
      -- numbers = calls[at + 2:behind]
      refine ⟨_, rfl, _, rfl, _, _, rfl, rfl, _, rfl, _, rfl, _, rfl, a, _, rfl, hsq, fun q nq => ?_⟩
      have ecut : cutV (nvs nn) (some ((P : Int) + 2)) (some ((P : Int) + 2 + (w : Int))) = nvs (r2.take w) := by
        rw [cut_of (a := P + 2) (b := P + 2 + w) (by congr 1) (by congr 1) (by omega) (by rw [nvs_len]; omega)]
        unfold nvs
        rw [← List.map_drop, ← List.map_take, w2]
        congr 2
        omega
      have nq : H2 q = none := nq
      have s3 : Same H2 (upd H2 q (.lst (cutV (nvs nn) (some ((P : Int) + 2)) (some ((P : Int) + 2 + (w : Int)))))) := Same.newUpd nq
      have hq3 : upd H2 q (.lst (cutV (nvs nn) (some ((P : Int) + 2)) (some ((P : Int) + 2 + (w : Int))))) q = some (.lst (nvs (r2.take w))) := by
        rw [ecut]
        exact upd_same
      have hdrop : nn.drop (P + 2 + w) = kk :: t := by
        rw [← List.drop_drop, w2]
        exact hdr
      -- lists, place = lists_at(calls, behind)
      refine ⟨_, rfl, _, rfl, a, nn, P + 2 + w, kk, t, u, rows, rfl, Same.seq s3 hsq, by omega, hdrop, by omega, hrows, fun v vl tt H3 s4 ev htt hvl => ?_⟩
      subst ev
      refine ⟨tt, _, rfl, SqT.of htt, rfl, _, _, rfl, _, _, rfl, rfl, ?_⟩
      have s24 := Same.trans s3 s4
      -- told = answer(setter, calls[at], numbers, lists)
      refine ⟨_, rfl, _, rfl, _, rfl, a, _, _, _, rfl, rfl, Same.seq s24 hsq, at_nvs (i := P) rfl q1, _, rfl, _, rfl, x, q, vl, d, p, r2.take w, rows, call, rfl, hx.same s24, G, SqL.of (s4 _ _ hq3), hvl, htold, fun v H4 s5 hx4 ha4 => ?_⟩
      obtain ⟨tl, rfl, htl⟩ := ha4
      obtain ⟨dx3, va3, vb3, vc3, h03, _⟩ := hx.same s24
      have hsq4 : SqL K H4 a (nvs nn) := sq_but (Same.seq s24 hsq) h03 s5
      have fx : f ≠ x := fun e => by
        have e1 := s24 _ _ hf
        rw [e, h03] at e1
        cases e1
      have hf4 : H4 f = some (.lst (out.map V.int)) := s5 _ _ (hide_some.mpr ⟨fx, s24 _ _ hf⟩)
      have hplay : PyFlat.told (PyFlat.played CoNeutral.step d ((inz (p :: r2.take w) :: rows.map inz) :: cs2)) = ((CoNeutral.numbers (IhColumns.step d call).2).length : Int) :: CoNeutral.numbers (IhColumns.step d call).2 ++ PyFlat.told (PyFlat.played CoNeutral.step (IhColumns.step d call).1 cs2) := by
        have e1 : CoNeutral.step d (inz (p :: r2.take w) :: rows.map inz) = ((IhColumns.step d call).1, CoNeutral.numbers (IhColumns.step d call).2) := by
          unfold CoNeutral.step
          rw [hcall]
        show PyFlat.told ((CoNeutral.step d (inz (p :: r2.take w) :: rows.map inz)).2 :: PyFlat.played CoNeutral.step (CoNeutral.step d (inz (p :: r2.take w) :: rows.map inz)).1 cs2) = _
        rw [e1]
        rfl
      rw [hplay] at hout
      have htot : out.length + (1 + (CoNeutral.numbers (IhColumns.step d call).2).length) ≤ 10000000 := by
        have := hshort
        rw [← hout, List.length_append, List.length_append, List.length_cons] at this
        omega
      -- found = found + [len(told)] + told
      refine ⟨_, rfl, _, rfl, tl, _, rfl, .inl (SqL.of htl), by show 1 ≤ sizeLine; decide, fun q1' n1 => ?_⟩
      rw [List.length_map]
      have n1 : H4 q1' = none := n1
      have s6 := Same.newUpd (o := .lst [.int ((CoNeutral.numbers (IhColumns.step d call).2).length : Int)]) n1
      refine ⟨f, q1', _, _, rfl, rfl, s6 _ _ hf4, upd_same, ?_, fun q2' n2 => ?_⟩
      · rw [List.length_map]
        exact Nat.le_trans (show out.length + 1 ≤ 10000000 by omega) (by decide)
      · have s7 := Same.newUpd (o := .lst (out.map V.int ++ [.int ((CoNeutral.numbers (IhColumns.step d call).2).length : Int)])) n2
        refine ⟨_, rfl, q2', tl, _, _, rfl, rfl, upd_same, s7 _ _ (s6 _ _ htl), ?_, fun q3' n3 => ?_⟩
        · rw [List.length_append, List.length_map, List.length_map]
          exact Nat.le_trans (show out.length + 1 + (CoNeutral.numbers (IhColumns.step d call).2).length ≤ 10000000 by omega) (by decide)
        · have s8 := Same.newUpd (o := .lst (out.map V.int ++ [.int ((CoNeutral.numbers (IhColumns.step d call).2).length : Int)] ++ (CoNeutral.numbers (IhColumns.step d call).2).map V.int)) n3
          have s68 := Same.trans s6 (Same.trans s7 s8)
          refine ⟨_, rfl, u.length, ?_, u, cs2, (IhColumns.step d call).1, out ++ ((CoNeutral.numbers (IhColumns.step d call).2).length : Int) :: CoNeutral.numbers (IhColumns.step d call).2, q3', n', _, _, _, _, _, rfl, rfl, ?_, ?_, Same.seq s68 hsq4, hx4.same s68, good_step G call, ?_, hc2, hal.2, ?_⟩
          · have := hrl.2.2.1
            simp only [List.length_cons]
            omega
          · have := hrl.2.2.2.2
            have e2 : nn.drop (P + 2 + w + 1) = t := (get_drop hdrop).2.1
            rw [show nn.length - u.length = (P + 2 + w + 1) + (t.length - u.length) by have := hrl.2.2.1; have := (get_drop hdrop).2.2; omega, ← List.drop_drop, e2]
            exact this.symm
          · have := hrl.2.2.1
            have := (get_drop hdrop).2.2
            omega
          · rw [upd_same, List.map_append, List.map_cons, List.append_assoc]
            rfl
          · rw [← hout, List.append_assoc]
end HC

/-! # headcolumns: each def keeps its promise -/
namespace HC
open PySem PySem.Spec PyProof.Rows L2
variable {P : Program} {w : World} {K : PySem.W.Frag} {mg : Str → Option Value} {base : Heap} {c : CA}
theorem ok_Sheet_init {f : Addr} {fd : FuncData} (F : Fun K "__init__" "Sheet.__init__" s_Sheet_init f fd) (T : Txt K mg c) : FnOk P w K mg base CX0 1 f fd P_Sheet_init (sp_Sheet_init K c) :=
  F.ok sc_Sheet_init len_Sheet_init fun _ _ _ _ _ _ _ _ hr h => ⟨t_Sheet_init K c, d_Sheet_init T hr, p_Sheet_init T.toKf h⟩
theorem ok_first_sheet {f : Addr} {fd : FuncData} (F : Fun K "first_sheet" "first_sheet" s_first_sheet f fd) (T : Txt K mg c) (D_Sheet_init : Idf P w K mg base c.sh P_Sheet_init 1 (sp_Sheet_init K c)) : FnOk P w K mg base CX0 3 f fd P_first_sheet (sp_first_sheet K c) :=
  F.ok sc_first_sheet len_first_sheet fun _ _ _ _ _ _ _ _ hr h => ⟨t_first_sheet K c (sp_Sheet_init K c), d_first_sheet T hr D_Sheet_init, p_first_sheet T.toKf h⟩
theorem ok_sign_of {f : Addr} {fd : FuncData} (F : Fun K "sign_of" "sign_of" s_sign_of f fd) (T : Txt K mg c) : FnOk P w K mg base CX0 1 f fd P_sign_of (sp_sign_of K c) :=
  F.ok sc_sign_of len_sign_of fun _ _ _ _ _ _ _ _ hr h => ⟨t_sign_of K c, d_sign_of T hr, p_sign_of T.toKf h⟩
theorem ok_signs_of {f : Addr} {fd : FuncData} (F : Fun K "signs_of" "signs_of" s_signs_of f fd) (T : Txt K mg c) (D_sign_of : Df P w K mg base "sign_of" P_sign_of 1 (sp_sign_of K c)) : FnOk P w K mg base CX0 2 f fd P_signs_of (sp_signs_of K c) :=
  F.ok sc_signs_of len_signs_of fun _ _ _ _ _ _ _ _ hr h => ⟨t_signs_of K c (sp_sign_of K c), d_signs_of T hr D_sign_of, p_signs_of T.toKf h⟩
theorem ok_width_of {f : Addr} {fd : FuncData} (F : Fun K "width_of" "width_of" s_width_of f fd) (T : Txt K mg c) : FnOk P w K mg base CX0 1 f fd P_width_of (sp_width_of K c) :=
  F.ok sc_width_of len_width_of fun _ _ _ _ _ _ _ _ hr h => ⟨t_width_of K c, d_width_of T hr, p_width_of T.toKf h⟩
theorem ok_room_of {f : Addr} {fd : FuncData} (F : Fun K "room_of" "room_of" s_room_of f fd) (T : Txt K mg c) : FnOk P w K mg base CX0 1 f fd P_room_of (sp_room_of K c) :=
  F.ok sc_room_of len_room_of fun _ _ _ _ _ _ _ _ hr h => ⟨t_room_of K c, d_room_of T hr, p_room_of T.toKf h⟩
theorem ok_are_right_widths {f : Addr} {fd : FuncData} (F : Fun K "are_right_widths" "are_right_widths" s_are_right_widths f fd) (T : Txt K mg c) : FnOk P w K mg base CX0 1 f fd P_are_right_widths (sp_are_right_widths K c) :=
  F.ok sc_are_right_widths len_are_right_widths fun _ _ _ _ _ _ _ _ hr h => ⟨t_are_right_widths K c, d_are_right_widths T hr, p_are_right_widths T.toKf h⟩
theorem ok_sheet_refusal {f : Addr} {fd : FuncData} (F : Fun K "sheet_refusal" "sheet_refusal" s_sheet_refusal f fd) (T : Txt K mg c) (D_are_right_widths : Df P w K mg base "are_right_widths" P_are_right_widths 1 (sp_are_right_widths K c)) (D_width_of : Df P w K mg base "width_of" P_width_of 1 (sp_width_of K c)) (D_signs_of : Df P w K mg base "signs_of" P_signs_of 2 (sp_signs_of K c)) : FnOk P w K mg base CX0 3 f fd P_sheet_refusal (sp_sheet_refusal K c) :=
  F.ok sc_sheet_refusal len_sheet_refusal fun _ _ _ _ _ _ _ _ hr h => ⟨t_sheet_refusal K c (sp_are_right_widths K c) (sp_width_of K c) (sp_signs_of K c), d_sheet_refusal T hr D_are_right_widths D_width_of D_signs_of, p_sheet_refusal T.toKf h⟩
theorem ok_Setting_init {f : Addr} {fd : FuncData} (F : Fun K "__init__" "Setting.__init__" s_Setting_init f fd) (T : Txt K mg c) : FnOk P w K mg base CX0 1 f fd P_Setting_init (sp_Setting_init K c) :=
  F.ok sc_Setting_init len_Setting_init fun _ _ _ _ _ _ _ _ hr h => ⟨t_Setting_init K c, d_Setting_init T hr, p_Setting_init T.toKf h⟩
theorem ok_Setting_put {f : Addr} {fd : FuncData} (F : Fun K "put" "Setting.put" s_Setting_put f fd) (T : Txt K mg c) : FnOk P w K mg base CX0 1 f fd P_Setting_put (sp_Setting_put K c) :=
  F.ok sc_Setting_put len_Setting_put fun _ _ _ _ _ _ _ _ hr h => ⟨t_Setting_put K c, d_Setting_put T hr, p_Setting_put T.toKf h⟩
theorem ok_Setting_leave {f : Addr} {fd : FuncData} (F : Fun K "leave" "Setting.leave" s_Setting_leave f fd) (T : Txt K mg c) : FnOk P w K mg base CX0 1 f fd P_Setting_leave (sp_Setting_leave K c) :=
  F.ok sc_Setting_leave len_Setting_leave fun _ _ _ _ _ _ _ _ hr h => ⟨t_Setting_leave K c, d_Setting_leave T hr, p_Setting_leave T.toKf h⟩
theorem ok_Setting_turn_column {f : Addr} {fd : FuncData} (F : Fun K "turn_column" "Setting.turn_column" s_Setting_turn_column f fd) (T : Txt K mg c) : FnOk P w K mg base CX0 1 f fd P_Setting_turn_column (sp_Setting_turn_column K c) :=
  F.ok sc_Setting_turn_column len_Setting_turn_column fun _ _ _ _ _ _ _ _ hr h => ⟨t_Setting_turn_column K c, d_Setting_turn_column T hr, p_Setting_turn_column T.toKf h⟩
theorem ok_main_of {f : Addr} {fd : FuncData} (F : Fun K "main_of" "main_of" s_main_of f fd) (T : Txt K mg c) : FnOk P w K mg base CX0 1 f fd P_main_of (sp_main_of K c) :=
  F.ok sc_main_of len_main_of fun _ _ _ _ _ _ _ _ hr h => ⟨t_main_of K c, d_main_of T hr, p_main_of T.toKf h⟩
theorem ok_lead_kept {f : Addr} {fd : FuncData} (F : Fun K "lead_kept" "lead_kept" s_lead_kept f fd) (T : Txt K mg c) (D_width_of : Df P w K mg base "width_of" P_width_of 1 (sp_width_of K c)) (D_signs_of : Df P w K mg base "signs_of" P_signs_of 2 (sp_signs_of K c)) : FnOk P w K mg base CX0 3 f fd P_lead_kept (sp_lead_kept K c) :=
  F.ok sc_lead_kept len_lead_kept fun _ _ _ _ _ _ _ _ hr h => ⟨t_lead_kept K c (sp_width_of K c) (sp_signs_of K c), d_lead_kept T hr D_width_of D_signs_of, p_lead_kept T.toKf h⟩
theorem ok_rows_alone {f : Addr} {fd : FuncData} (F : Fun K "rows_alone" "rows_alone" s_rows_alone f fd) (T : Txt K mg c) : FnOk P w K mg base CX0 1 f fd P_rows_alone (sp_rows_alone K c) :=
  F.ok sc_rows_alone len_rows_alone fun _ _ _ _ _ _ _ _ hr h => ⟨t_rows_alone K c, d_rows_alone T hr, p_rows_alone T.toKf h⟩
theorem ok_rows_needed {f : Addr} {fd : FuncData} (F : Fun K "rows_needed" "rows_needed" s_rows_needed f fd) (T : Txt K mg c) (D_rows_alone : Df P w K mg base "rows_alone" P_rows_alone 1 (sp_rows_alone K c)) : FnOk P w K mg base CX0 2 f fd P_rows_needed (sp_rows_needed K c) :=
  F.ok sc_rows_needed len_rows_needed fun _ _ _ _ _ _ _ _ hr h => ⟨t_rows_needed K c (sp_rows_alone K c), d_rows_needed T hr D_rows_alone, p_rows_needed T.toKf h⟩
theorem ok_begins_group {f : Addr} {fd : FuncData} (F : Fun K "begins_group" "begins_group" s_begins_group f fd) (T : Txt K mg c) : FnOk P w K mg base CX0 1 f fd P_begins_group (sp_begins_group K c) :=
  F.ok sc_begins_group len_begins_group fun _ _ _ _ _ _ _ _ hr h => ⟨t_begins_group K c, d_begins_group T hr, p_begins_group T.toKf h⟩
theorem ok_set_line {f : Addr} {fd : FuncData} (F : Fun K "set_line" "set_line" s_set_line f fd) (T : Txt K mg c) (D_Setting_put : Mdf P w K mg base c.st "put" P_Setting_put 1 (sp_Setting_put K c)) (D_Setting_turn_column : Mdf P w K mg base c.st "turn_column" P_Setting_turn_column 1 (sp_Setting_turn_column K c)) (D_rows_needed : Df P w K mg base "rows_needed" P_rows_needed 2 (sp_rows_needed K c)) (D_main_of : Df P w K mg base "main_of" P_main_of 1 (sp_main_of K c)) (D_lead_kept : Df P w K mg base "lead_kept" P_lead_kept 3 (sp_lead_kept K c)) : FnOk P w K mg base CX0 4 f fd P_set_line (sp_set_line K c) :=
  F.ok sc_set_line len_set_line fun _ _ _ _ _ _ _ _ hr h => ⟨t_set_line K c (sp_Setting_put K c) (sp_Setting_turn_column K c) (sp_rows_needed K c) (sp_main_of K c) (sp_lead_kept K c), d_set_line T hr D_Setting_put D_Setting_turn_column D_rows_needed D_main_of D_lead_kept, p_set_line T.toKf h⟩
theorem ok_set_all {f : Addr} {fd : FuncData} (F : Fun K "set_all" "set_all" s_set_all f fd) (T : Txt K mg c) (D_Setting_init : Idf P w K mg base c.st P_Setting_init 1 (sp_Setting_init K c)) (D_begins_group : Df P w K mg base "begins_group" P_begins_group 1 (sp_begins_group K c)) (D_Setting_leave : Mdf P w K mg base c.st "leave" P_Setting_leave 1 (sp_Setting_leave K c)) (D_set_line : Df P w K mg base "set_line" P_set_line 4 (sp_set_line K c)) : FnOk P w K mg base CX0 5 f fd P_set_all (sp_set_all K c) :=
  F.ok sc_set_all len_set_all fun _ _ _ _ _ _ _ _ hr h => ⟨t_set_all K c (sp_Setting_init K c) (sp_begins_group K c) (sp_Setting_leave K c) (sp_set_line K c), d_set_all T hr D_Setting_init D_begins_group D_Setting_leave D_set_line, p_set_all T.toKf h⟩
theorem ok_text_end {f : Addr} {fd : FuncData} (F : Fun K "text_end" "text_end" s_text_end f fd) (T : Txt K mg c) : FnOk P w K mg base CX0 1 f fd P_text_end (sp_text_end K c) :=
  F.ok sc_text_end len_text_end fun _ _ _ _ _ _ _ _ hr h => ⟨t_text_end K c, d_text_end T hr, p_text_end T.toKf h⟩
theorem ok_line_begin {f : Addr} {fd : FuncData} (F : Fun K "line_begin" "line_begin" s_line_begin f fd) (T : Txt K mg c) : FnOk P w K mg base CX0 1 f fd P_line_begin (sp_line_begin K c) :=
  F.ok sc_line_begin len_line_begin fun _ _ _ _ _ _ _ _ hr h => ⟨t_line_begin K c, d_line_begin T hr, p_line_begin T.toKf h⟩
theorem ok_is_break {f : Addr} {fd : FuncData} (F : Fun K "is_break" "is_break" s_is_break f fd) (T : Txt K mg c) : FnOk P w K mg base CX0 1 f fd P_is_break (sp_is_break K c) :=
  F.ok sc_is_break len_is_break fun _ _ _ _ _ _ _ _ hr h => ⟨t_is_break K c, d_is_break T hr, p_is_break T.toKf h⟩
theorem ok_best_or {f : Addr} {fd : FuncData} (F : Fun K "best_or" "best_or" s_best_or f fd) (T : Txt K mg c) : FnOk P w K mg base CX0 1 f fd P_best_or (sp_best_or K c) :=
  F.ok sc_best_or len_best_or fun _ _ _ _ _ _ _ _ hr h => ⟨t_best_or K c, d_best_or T hr, p_best_or T.toKf h⟩
theorem ok_line_end {f : Addr} {fd : FuncData} (F : Fun K "line_end" "line_end" s_line_end f fd) (T : Txt K mg c) (D_best_or : Df P w K mg base "best_or" P_best_or 1 (sp_best_or K c)) (D_is_break : Df P w K mg base "is_break" P_is_break 1 (sp_is_break K c)) : FnOk P w K mg base CX0 2 f fd P_line_end (sp_line_end K c) :=
  F.ok sc_line_end len_line_end fun _ _ _ _ _ _ _ _ hr h => ⟨t_line_end K c (sp_best_or K c) (sp_is_break K c), d_line_end T hr D_best_or D_is_break, p_line_end T.toKf h⟩
theorem ok_text_lines {f : Addr} {fd : FuncData} (F : Fun K "text_lines" "text_lines" s_text_lines f fd) (T : Txt K mg c) (D_text_end : Df P w K mg base "text_end" P_text_end 1 (sp_text_end K c)) (D_line_begin : Df P w K mg base "line_begin" P_line_begin 1 (sp_line_begin K c)) (D_line_end : Df P w K mg base "line_end" P_line_end 2 (sp_line_end K c)) (D_room_of : Df P w K mg base "room_of" P_room_of 1 (sp_room_of K c)) : FnOk P w K mg base CX0 3 f fd P_text_lines (sp_text_lines K c) :=
  F.ok sc_text_lines len_text_lines fun _ _ _ _ _ _ _ _ hr h => ⟨t_text_lines K c (sp_text_end K c) (sp_line_begin K c) (sp_line_end K c) (sp_room_of K c), d_text_lines T hr D_text_end D_line_begin D_line_end D_room_of, p_text_lines T.toKf h⟩
theorem ok_Paragraph_init {f : Addr} {fd : FuncData} (F : Fun K "__init__" "Paragraph.__init__" s_Paragraph_init f fd) (T : Txt K mg c) : FnOk P w K mg base CX0 1 f fd P_Paragraph_init (sp_Paragraph_init K c) :=
  F.ok sc_Paragraph_init len_Paragraph_init fun _ _ _ _ _ _ _ _ hr h => ⟨t_Paragraph_init K c, d_Paragraph_init T hr, p_Paragraph_init T.toKf h⟩
theorem ok_is_right {f : Addr} {fd : FuncData} (F : Fun K "is_right" "is_right" s_is_right f fd) (T : Txt K mg c) : FnOk P w K mg base CX0 1 f fd P_is_right (sp_is_right K c) :=
  F.ok sc_is_right len_is_right fun _ _ _ _ _ _ _ _ hr h => ⟨t_is_right K c, d_is_right T hr, p_is_right T.toKf h⟩
theorem ok_first_wrong {f : Addr} {fd : FuncData} (F : Fun K "first_wrong" "first_wrong" s_first_wrong f fd) (T : Txt K mg c) (D_is_right : Df P w K mg base "is_right" P_is_right 1 (sp_is_right K c)) : FnOk P w K mg base CX0 2 f fd P_first_wrong (sp_first_wrong K c) :=
  F.ok sc_first_wrong len_first_wrong fun _ _ _ _ _ _ _ _ hr h => ⟨t_first_wrong K c (sp_is_right K c), d_first_wrong T hr D_is_right, p_first_wrong T.toKf h⟩
theorem ok_are_blanks {f : Addr} {fd : FuncData} (F : Fun K "are_blanks" "are_blanks" s_are_blanks f fd) (T : Txt K mg c) : FnOk P w K mg base CX0 1 f fd P_are_blanks (sp_are_blanks K c) :=
  F.ok sc_are_blanks len_are_blanks fun _ _ _ _ _ _ _ _ hr h => ⟨t_are_blanks K c, d_are_blanks T hr, p_are_blanks T.toKf h⟩
theorem ok_first_blank {f : Addr} {fd : FuncData} (F : Fun K "first_blank" "first_blank" s_first_blank f fd) (T : Txt K mg c) (D_are_blanks : Df P w K mg base "are_blanks" P_are_blanks 1 (sp_are_blanks K c)) (D_signs_of : Df P w K mg base "signs_of" P_signs_of 2 (sp_signs_of K c)) : FnOk P w K mg base CX0 3 f fd P_first_blank (sp_first_blank K c) :=
  F.ok sc_first_blank len_first_blank fun _ _ _ _ _ _ _ _ hr h => ⟨t_first_blank K c (sp_are_blanks K c) (sp_signs_of K c), d_first_blank T hr D_are_blanks D_signs_of, p_first_blank T.toKf h⟩
theorem ok_all_lines {f : Addr} {fd : FuncData} (F : Fun K "all_lines" "all_lines" s_all_lines f fd) (T : Txt K mg c) (D_text_lines : Df P w K mg base "text_lines" P_text_lines 3 (sp_text_lines K c)) (D_signs_of : Df P w K mg base "signs_of" P_signs_of 2 (sp_signs_of K c)) : FnOk P w K mg base CX0 4 f fd P_all_lines (sp_all_lines K c) :=
  F.ok sc_all_lines len_all_lines fun _ _ _ _ _ _ _ _ hr h => ⟨t_all_lines K c (sp_text_lines K c) (sp_signs_of K c), d_all_lines T hr D_text_lines D_signs_of, p_all_lines T.toKf h⟩
theorem ok_first_none {f : Addr} {fd : FuncData} (F : Fun K "first_none" "first_none" s_first_none f fd) (T : Txt K mg c) : FnOk P w K mg base CX0 1 f fd P_first_none (sp_first_none K c) :=
  F.ok sc_first_none len_first_none fun _ _ _ _ _ _ _ _ hr h => ⟨t_first_none K c, d_first_none T hr, p_first_none T.toKf h⟩
theorem ok_character_count {f : Addr} {fd : FuncData} (F : Fun K "character_count" "character_count" s_character_count f fd) (T : Txt K mg c) : FnOk P w K mg base CX0 1 f fd P_character_count (sp_character_count K c) :=
  F.ok sc_character_count len_character_count fun _ _ _ _ _ _ _ _ hr h => ⟨t_character_count K c, d_character_count T hr, p_character_count T.toKf h⟩
theorem ok_Setter_init {f : Addr} {fd : FuncData} (F : Fun K "__init__" "Setter.__init__" s_Setter_init f fd) (T : Txt K mg c) (D_first_sheet : Df P w K mg base "first_sheet" P_first_sheet 3 (sp_first_sheet K c)) : FnOk P w K mg base CX0 4 f fd P_Setter_init (sp_Setter_init K c) :=
  F.ok sc_Setter_init len_Setter_init fun _ _ _ _ _ _ _ _ hr h => ⟨t_Setter_init K c (sp_first_sheet K c), d_Setter_init T hr D_first_sheet, p_Setter_init T.toKf h⟩
theorem ok_Setter_take_sheet {f : Addr} {fd : FuncData} (F : Fun K "take_sheet" "Setter.take_sheet" s_Setter_take_sheet f fd) (T : Txt K mg c) (D_Sheet_init : Idf P w K mg base c.sh P_Sheet_init 1 (sp_Sheet_init K c)) (D_sheet_refusal : Df P w K mg base "sheet_refusal" P_sheet_refusal 3 (sp_sheet_refusal K c)) : FnOk P w K mg base CX0 4 f fd P_Setter_take_sheet (sp_Setter_take_sheet K c) :=
  F.ok sc_Setter_take_sheet len_Setter_take_sheet fun _ _ _ _ _ _ _ _ hr h => ⟨t_Setter_take_sheet K c (sp_Sheet_init K c) (sp_sheet_refusal K c), d_Setter_take_sheet T hr D_Sheet_init D_sheet_refusal, p_Setter_take_sheet T.toKf h⟩
theorem ok_Setter_take_paragraphs {f : Addr} {fd : FuncData} (F : Fun K "take_paragraphs" "Setter.take_paragraphs" s_Setter_take_paragraphs f fd) (T : Txt K mg c) (D_first_wrong : Df P w K mg base "first_wrong" P_first_wrong 2 (sp_first_wrong K c)) (D_first_blank : Df P w K mg base "first_blank" P_first_blank 3 (sp_first_blank K c)) (D_all_lines : Df P w K mg base "all_lines" P_all_lines 4 (sp_all_lines K c)) (D_first_none : Df P w K mg base "first_none" P_first_none 1 (sp_first_none K c)) (D_set_all : Df P w K mg base "set_all" P_set_all 5 (sp_set_all K c)) (D_Paragraph_init : Idf P w K mg base c.pa P_Paragraph_init 1 (sp_Paragraph_init K c)) (D_character_count : Df P w K mg base "character_count" P_character_count 1 (sp_character_count K c)) : FnOk P w K mg base CX0 6 f fd P_Setter_take_paragraphs (sp_Setter_take_paragraphs K c) :=
  F.ok sc_Setter_take_paragraphs len_Setter_take_paragraphs fun _ _ _ _ _ _ _ _ hr h => ⟨t_Setter_take_paragraphs K c (sp_first_wrong K c) (sp_first_blank K c) (sp_all_lines K c) (sp_first_none K c) (sp_set_all K c) (sp_Paragraph_init K c) (sp_character_count K c), d_Setter_take_paragraphs T hr D_first_wrong D_first_blank D_all_lines D_first_none D_set_all D_Paragraph_init D_character_count, p_Setter_take_paragraphs T.toKf h⟩
theorem ok_Setter_tell_line {f : Addr} {fd : FuncData} (F : Fun K "tell_line" "Setter.tell_line" s_Setter_tell_line f fd) (T : Txt K mg c) : FnOk P w K mg base CX0 1 f fd P_Setter_tell_line (sp_Setter_tell_line K c) :=
  F.ok sc_Setter_tell_line len_Setter_tell_line fun _ _ _ _ _ _ _ _ hr h => ⟨t_Setter_tell_line K c, d_Setter_tell_line T hr, p_Setter_tell_line T.toKf h⟩
theorem ok_Setter_tell_where {f : Addr} {fd : FuncData} (F : Fun K "tell_where" "Setter.tell_where" s_Setter_tell_where f fd) (T : Txt K mg c) : FnOk P w K mg base CX0 1 f fd P_Setter_tell_where (sp_Setter_tell_where K c) :=
  F.ok sc_Setter_tell_where len_Setter_tell_where fun _ _ _ _ _ _ _ _ hr h => ⟨t_Setter_tell_where K c, d_Setter_tell_where T hr, p_Setter_tell_where T.toKf h⟩
theorem ok_Setter_tell_columns {f : Addr} {fd : FuncData} (F : Fun K "tell_columns" "Setter.tell_columns" s_Setter_tell_columns f fd) (T : Txt K mg c) : FnOk P w K mg base CX0 1 f fd P_Setter_tell_columns (sp_Setter_tell_columns K c) :=
  F.ok sc_Setter_tell_columns len_Setter_tell_columns fun _ _ _ _ _ _ _ _ hr h => ⟨t_Setter_tell_columns K c, d_Setter_tell_columns T hr, p_Setter_tell_columns T.toKf h⟩
theorem ok_answer {f : Addr} {fd : FuncData} (F : Fun K "answer" "answer" s_answer f fd) (T : Txt K mg c) (D_Setter_tell_columns : Mdf P w K mg base c.se "tell_columns" P_Setter_tell_columns 1 (sp_Setter_tell_columns K c)) (D_Setter_take_sheet : Mdf P w K mg base c.se "take_sheet" P_Setter_take_sheet 4 (sp_Setter_take_sheet K c)) (D_Setter_take_paragraphs : Mdf P w K mg base c.se "take_paragraphs" P_Setter_take_paragraphs 6 (sp_Setter_take_paragraphs K c)) (D_Setter_tell_line : Mdf P w K mg base c.se "tell_line" P_Setter_tell_line 1 (sp_Setter_tell_line K c)) (D_Setter_tell_where : Mdf P w K mg base c.se "tell_where" P_Setter_tell_where 1 (sp_Setter_tell_where K c)) : FnOk P w K mg base CX0 7 f fd P_answer (sp_answer K c) :=
  F.ok sc_answer len_answer fun _ _ _ _ _ _ _ _ hr h => ⟨t_answer K c (sp_Setter_tell_columns K c) (sp_Setter_take_sheet K c) (sp_Setter_take_paragraphs K c) (sp_Setter_tell_line K c) (sp_Setter_tell_where K c), d_answer T hr D_Setter_tell_columns D_Setter_take_sheet D_Setter_take_paragraphs D_Setter_tell_line D_Setter_tell_where, p_answer T.toKf h⟩
theorem ok_lists_at {f : Addr} {fd : FuncData} (F : Fun K "lists_at" "lists_at" s_lists_at f fd) (T : Txt K mg c) : FnOk P w K mg base CX0 1 f fd P_lists_at (sp_lists_at K c) :=
  F.ok sc_lists_at len_lists_at fun _ _ _ _ _ _ _ _ hr h => ⟨t_lists_at K c, d_lists_at T hr, p_lists_at T.toKf h⟩
theorem ok_answers {f : Addr} {fd : FuncData} (F : Fun K "answers" "answers" s_answers f fd) (T : Txt K mg c) (D_Setter_init : Idf P w K mg base c.se P_Setter_init 4 (sp_Setter_init K c)) (D_lists_at : Df P w K mg base "lists_at" P_lists_at 1 (sp_lists_at K c)) (D_answer : Df P w K mg base "answer" P_answer 7 (sp_answer K c)) : FnOk P w K mg base CX0 8 f fd P_answers (sp_answers K c) :=
  F.ok sc_answers len_answers fun _ _ _ _ _ _ _ _ hr h => ⟨t_answers K c (sp_Setter_init K c) (sp_lists_at K c) (sp_answer K c), d_answers T hr D_Setter_init D_lists_at D_answer, p_answers T.toKf h⟩
end HC

/-! # headcolumns: the end: what the top has written -/
namespace HC
open PySem PySem.Spec PyProof.Rows L2
structure FnAt (K : PySem.W.Frag) (x : Str) (st : Stmt) : Prop where
  ex : ∃ (f : Addr) (fd : FuncData), PySem.W.nsIn K mainGlobals x = some (some (.ref f)) ∧ Fun K x x st f fd
structure InAt (K : PySem.W.Frag) (C : Addr) (qual : Str) (st : Stmt) : Prop where
  ex : ∃ (f : Addr) (fd : FuncData), Mk K C f ∧ Fun K "__init__" qual st f fd
structure MtAt (K : PySem.W.Frag) (C : Addr) (m qual : Str) (st : Stmt) : Prop where
  ex : ∃ (f : Addr) (fd : FuncData), Meth K C m f ∧ Fun K m qual st f fd
structure CstAt (K : PySem.W.Frag) (x : Str) (n : Int) : Prop where
  ex : ∃ t, PySem.W.nsIn K mainGlobals x = some (some (.int n t))
section
variable {P : Program} {w : World} {K : PySem.W.Frag} {mg : Str → Option Value} {base h : Heap} {C : Addr} {x m qual : Str} {st : Stmt}
theorem fn_at {f : Addr} {oc : Value} {od an : Option Addr} {osl : Array (Option Value)} {kV doc pm cdv ct : Value} (a : PySem.W.nsIn K mainGlobals x = some (some (.ref f))) (l : K.lookup f = some ⟨oc, od, .func (PySem.W.fnOf x x (defArgs st) (defBody st) (defScope st) .none kV doc pm an cdv ct), osl⟩)
    (c : PySem.W.codeIn K cdv x = true) (k : PySem.W.keepIn K (.ref f) = true) : FnAt K x st := ⟨f, _, a, fun_mk l c k⟩
theorem in_at {f : Addr} {oc : Value} {od an : Option Addr} {osl : Array (Option Value)} {kV doc pm cdv ct : Value} (mk : PySem.W.makesIn K C = true) (a : PySem.W.findIn K (.ref C) "__init__" = some (some (.ref f))) (i : PySem.W.isFn K (.ref f) = true) (kc : PySem.W.keepIn K (.ref C) = true)
    (l : K.lookup f = some ⟨oc, od, .func (PySem.W.fnOf "__init__" qual (defArgs st) (defBody st) (defScope st) .none kV doc pm an cdv ct), osl⟩) (c : PySem.W.codeIn K cdv qual = true) (k : PySem.W.keepIn K (.ref f) = true) : InAt K C qual st := ⟨f, _, ⟨mk, a, i, kc⟩, fun_mk l c k⟩
theorem mt_at {f : Addr} {oc : Value} {od an : Option Addr} {osl : Array (Option Value)} {kV doc pm cdv ct : Value} (a : PySem.W.findIn K (.ref C) m = some (some (.ref f))) (i : PySem.W.isFn K (.ref f) = true)
    (l : K.lookup f = some ⟨oc, od, .func (PySem.W.fnOf m qual (defArgs st) (defBody st) (defScope st) .none kV doc pm an cdv ct), osl⟩) (c : PySem.W.codeIn K cdv qual = true) (k : PySem.W.keepIn K (.ref f) = true) : MtAt K C m qual st := ⟨f, _, ⟨a, i, k⟩, fun_mk l c k⟩
theorem cst_at {n : Int} {t : Tok} (a : PySem.W.nsIn K mainGlobals x = some (some (.int n t))) : CstAt K x n := ⟨t, a⟩
theorem CstAt.at_ {n : Int} (k : CstAt K x n) (X : K.In h) (G : h.Ns mainGlobals mg) : ∃ t, mg x = some (.int n t) := by
  obtain ⟨t, a⟩ := k.ex
  exact ⟨t, PySem.W.mg_of X G a⟩
theorem mk_df {ps : List Str} {k : Nat} {sp : Sp} (X : K.In h) (G : h.Ns mainGlobals mg) (a : FnAt K x st) (b : ∀ {f : Addr} {fd : FuncData}, Fun K x x st f fd → Binds K fd ps []) (ok : ∀ {f : Addr} {fd : FuncData}, Fun K x x st f fd → FnOk P w K mg base CX0 k f fd ps sp) : Df P w K mg base x ps k sp := by
  obtain ⟨f, fd, g, F⟩ := a.ex
  exact ⟨f, fd, PySem.W.mg_of X G g, F.kp, b F, ok F⟩
theorem mk_idf {ps : List Str} {k : Nat} {sp : Sp} (a : InAt K C qual st) (b : ∀ {f : Addr} {fd : FuncData}, Fun K "__init__" qual st f fd → Binds K fd ps []) (ok : ∀ {f : Addr} {fd : FuncData}, Fun K "__init__" qual st f fd → FnOk P w K mg base CX0 k f fd ps sp) : Idf P w K mg base C ps k sp := by
  obtain ⟨f, fd, M, F⟩ := a.ex
  exact ⟨f, fd, M, b F, ok F⟩
theorem mk_mdf {ps : List Str} {k : Nat} {sp : Sp} (a : MtAt K C m qual st) (b : ∀ {f : Addr} {fd : FuncData}, Fun K m qual st f fd → Binds K fd ps []) (ok : ∀ {f : Addr} {fd : FuncData}, Fun K m qual st f fd → FnOk P w K mg base CX0 k f fd ps sp) : Mdf P w K mg base C m ps k sp := by
  obtain ⟨f, fd, M, F⟩ := a.ex
  exact ⟨f, fd, M, b F, ok F⟩
end
def spTop (K : PySem.W.Frag) : Sp := sp_answers K ⟨0, 0, 0, 0⟩
theorem all_mk {P : Program} {w : World} {K : PySem.W.Frag} {h : Heap} {mg : Str → Option Value} {fa csh cst cpa cse : Addr} (X : K.In h) (G : h.Ns mainGlobals mg) (hfa : mg "answers" = some (.ref fa))
    (ash : PySem.W.nsIn K mainGlobals "Sheet" = some (some (.ref csh)))
    (ast : PySem.W.nsIn K mainGlobals "Setting" = some (some (.ref cst)))
    (apa : PySem.W.nsIn K mainGlobals "Paragraph" = some (some (.ref cpa)))
    (ase : PySem.W.nsIn K mainGlobals "Setter" = some (some (.ref cse)))
    (lsh : Cls K csh)
    (lst : Cls K cst)
    (lpa : Cls K cpa)
    (lse : Cls K cse)
    (nsh_width : PySem.W.findIn K (.ref csh) "width" = some none)
    (nsh_height : PySem.W.findIn K (.ref csh) "height" = some none)
    (nsh_indents : PySem.W.findIn K (.ref csh) "indents" = some none)
    (nsh_turn : PySem.W.findIn K (.ref csh) "turn" = some none)
    (nsh_gap : PySem.W.findIn K (.ref csh) "gap" = some none)
    (nsh_widths : PySem.W.findIn K (.ref csh) "widths" = some none)
    (nsh_cut : PySem.W.findIn K (.ref csh) "cut" = some none)
    (nst_lines : PySem.W.findIn K (.ref cst) "lines" = some none)
    (nst_column : PySem.W.findIn K (.ref cst) "column" = some none)
    (nst_row : PySem.W.findIn K (.ref cst) "row" = some none)
    (npa_depth : PySem.W.findIn K (.ref cpa) "depth" = some none)
    (npa_group : PySem.W.findIn K (.ref cpa) "group" = some none)
    (npa_lead : PySem.W.findIn K (.ref cpa) "lead" = some none)
    (npa_text : PySem.W.findIn K (.ref cpa) "text" = some none)
    (nse_sheet : PySem.W.findIn K (.ref cse) "sheet" = some none)
    (nse_paragraphs : PySem.W.findIn K (.ref cse) "paragraphs" = some none)
    (nse_lines : PySem.W.findIn K (.ref cse) "lines" = some none)
    (z_len : PySem.W.nsIn K mainGlobals "len" = some none)
    (z_range : PySem.W.nsIn K mainGlobals "range" = some none)
    (z_sum : PySem.W.nsIn K mainGlobals "sum" = some none)
    (z_list : PySem.W.nsIn K mainGlobals "list" = some none)
    (z_max : PySem.W.nsIn K mainGlobals "max" = some none)
    (z_enumerate : PySem.W.nsIn K mainGlobals "enumerate" = some none)
    (k_PLAIN : CstAt K "PLAIN" 0)
    (k_BLANK : CstAt K "BLANK" 1)
    (k_BREAK : CstAt K "BREAK" 2)
    (k_LEAST_HEIGHT : CstAt K "LEAST_HEIGHT" 3)
    (k_MOST_HEIGHT : CstAt K "MOST_HEIGHT" 1000)
    (k_MOST_GAP : CstAt K "MOST_GAP" 100)
    (k_MOST_WIDTH : CstAt K "MOST_WIDTH" 1000000)
    (k_MOST_WIDTHS : CstAt K "MOST_WIDTHS" 256)
    (k_MOST_CUT : CstAt K "MOST_CUT" 64)
    (k_MOST_DEPTH : CstAt K "MOST_DEPTH" 3)
    (k_MOST_TEXT : CstAt K "MOST_TEXT" 65535)
    (k_MOST_CHARACTERS : CstAt K "MOST_CHARACTERS" 262144)
    (k_MOST_LINES : CstAt K "MOST_LINES" 65536)
    (h_Sheet_init : InAt K csh "Sheet.__init__" s_Sheet_init)
    (h_first_sheet : FnAt K "first_sheet" s_first_sheet)
    (h_sign_of : FnAt K "sign_of" s_sign_of)
    (h_signs_of : FnAt K "signs_of" s_signs_of)
    (h_width_of : FnAt K "width_of" s_width_of)
    (h_room_of : FnAt K "room_of" s_room_of)
    (h_are_right_widths : FnAt K "are_right_widths" s_are_right_widths)
    (h_sheet_refusal : FnAt K "sheet_refusal" s_sheet_refusal)
    (h_Setting_init : InAt K cst "Setting.__init__" s_Setting_init)
    (h_Setting_put : MtAt K cst "put" "Setting.put" s_Setting_put)
    (h_Setting_leave : MtAt K cst "leave" "Setting.leave" s_Setting_leave)
    (h_Setting_turn_column : MtAt K cst "turn_column" "Setting.turn_column" s_Setting_turn_column)
    (h_main_of : FnAt K "main_of" s_main_of)
    (h_lead_kept : FnAt K "lead_kept" s_lead_kept)
    (h_rows_alone : FnAt K "rows_alone" s_rows_alone)
    (h_rows_needed : FnAt K "rows_needed" s_rows_needed)
    (h_begins_group : FnAt K "begins_group" s_begins_group)
    (h_set_line : FnAt K "set_line" s_set_line)
    (h_set_all : FnAt K "set_all" s_set_all)
    (h_text_end : FnAt K "text_end" s_text_end)
    (h_line_begin : FnAt K "line_begin" s_line_begin)
    (h_is_break : FnAt K "is_break" s_is_break)
    (h_best_or : FnAt K "best_or" s_best_or)
    (h_line_end : FnAt K "line_end" s_line_end)
    (h_text_lines : FnAt K "text_lines" s_text_lines)
    (h_Paragraph_init : InAt K cpa "Paragraph.__init__" s_Paragraph_init)
    (h_is_right : FnAt K "is_right" s_is_right)
    (h_first_wrong : FnAt K "first_wrong" s_first_wrong)
    (h_are_blanks : FnAt K "are_blanks" s_are_blanks)
    (h_first_blank : FnAt K "first_blank" s_first_blank)
    (h_all_lines : FnAt K "all_lines" s_all_lines)
    (h_first_none : FnAt K "first_none" s_first_none)
    (h_character_count : FnAt K "character_count" s_character_count)
    (h_Setter_init : InAt K cse "Setter.__init__" s_Setter_init)
    (h_Setter_take_sheet : MtAt K cse "take_sheet" "Setter.take_sheet" s_Setter_take_sheet)
    (h_Setter_take_paragraphs : MtAt K cse "take_paragraphs" "Setter.take_paragraphs" s_Setter_take_paragraphs)
    (h_Setter_tell_line : MtAt K cse "tell_line" "Setter.tell_line" s_Setter_tell_line)
    (h_Setter_tell_where : MtAt K cse "tell_where" "Setter.tell_where" s_Setter_tell_where)
    (h_Setter_tell_columns : MtAt K cse "tell_columns" "Setter.tell_columns" s_Setter_tell_columns)
    (h_answer : FnAt K "answer" s_answer)
    (h_lists_at : FnAt K "lists_at" s_lists_at)
    (h_answers : FnAt K "answers" s_answers) :
    ∃ fd : FuncData, (∀ (s : Shared) (us : List Value), us.length = (["calls"] : List Str).length → BindsTo s fd ⟨us, []⟩ ((["calls"] : List Str).zip us)) ∧ ∀ base : Heap, K.In base → base.Ns mainGlobals mg → FnOk P w K mg base CX0 8 fa fd ["calls"] (spTop K) := by
  have T : Txt K mg ⟨csh, cst, cpa, cse⟩ := ⟨⟨lsh, lst, lpa, lse, nsh_width, nsh_height, nsh_indents, nsh_turn, nsh_gap, nsh_widths, nsh_cut, nst_lines, nst_column, nst_row, npa_depth, npa_group, npa_lead, npa_text, nse_sheet, nse_paragraphs, nse_lines⟩, PySem.W.mg_of X G ash, PySem.W.mg_of X G ast, PySem.W.mg_of X G apa, PySem.W.mg_of X G ase, PySem.W.mg_none_of X G z_len, PySem.W.mg_none_of X G z_range, PySem.W.mg_none_of X G z_sum, PySem.W.mg_none_of X G z_list, PySem.W.mg_none_of X G z_max, PySem.W.mg_none_of X G z_enumerate, k_PLAIN.at_ X G, k_BLANK.at_ X G, k_BREAK.at_ X G, k_LEAST_HEIGHT.at_ X G, k_MOST_HEIGHT.at_ X G, k_MOST_GAP.at_ X G, k_MOST_WIDTH.at_ X G, k_MOST_WIDTHS.at_ X G, k_MOST_CUT.at_ X G, k_MOST_DEPTH.at_ X G, k_MOST_TEXT.at_ X G, k_MOST_CHARACTERS.at_ X G, k_MOST_LINES.at_ X G⟩
  obtain ⟨f0, fd0, g0, F0⟩ := h_answers.ex
  have e := hfa.symm.trans (PySem.W.mg_of X G g0)
  cases e
  refine ⟨fd0, fun s us hu => ?_, fun base _ _ => ?_⟩
  · obtain ⟨oc, od, kV, doc, pm, an, cdv, ct, osl, rfl, lk, hcd⟩ := F0.ex
    match us, hu with
    | [_], _ => exact .of_eq rfl
  · have D_Sheet_init : Idf P w K mg base csh P_Sheet_init 1 (sp_Sheet_init K ⟨csh, cst, cpa, cse⟩) := mk_idf h_Sheet_init (fun F => F.binds (ps := P_Sheet_init) fun _ _ _ _ _ _ us hl => match us, hl with | [_, _, _, _], _ => rfl) (fun F => ok_Sheet_init F T)
    have D_first_sheet : Df P w K mg base "first_sheet" P_first_sheet 3 (sp_first_sheet K ⟨csh, cst, cpa, cse⟩) := mk_df X G h_first_sheet (fun F => F.binds (ps := P_first_sheet) fun _ _ _ _ _ _ us hl => match us, hl with | [], _ => rfl) (fun F => ok_first_sheet F T D_Sheet_init)
    have D_sign_of : Df P w K mg base "sign_of" P_sign_of 1 (sp_sign_of K ⟨csh, cst, cpa, cse⟩) := mk_df X G h_sign_of (fun F => F.binds (ps := P_sign_of) fun _ _ _ _ _ _ us hl => match us, hl with | [_, _], _ => rfl) (fun F => ok_sign_of F T)
    have D_signs_of : Df P w K mg base "signs_of" P_signs_of 2 (sp_signs_of K ⟨csh, cst, cpa, cse⟩) := mk_df X G h_signs_of (fun F => F.binds (ps := P_signs_of) fun _ _ _ _ _ _ us hl => match us, hl with | [_, _], _ => rfl) (fun F => ok_signs_of F T D_sign_of)
    have D_width_of : Df P w K mg base "width_of" P_width_of 1 (sp_width_of K ⟨csh, cst, cpa, cse⟩) := mk_df X G h_width_of (fun F => F.binds (ps := P_width_of) fun _ _ _ _ _ _ us hl => match us, hl with | [_], _ => rfl) (fun F => ok_width_of F T)
    have D_room_of : Df P w K mg base "room_of" P_room_of 1 (sp_room_of K ⟨csh, cst, cpa, cse⟩) := mk_df X G h_room_of (fun F => F.binds (ps := P_room_of) fun _ _ _ _ _ _ us hl => match us, hl with | [_, _, _], _ => rfl) (fun F => ok_room_of F T)
    have D_are_right_widths : Df P w K mg base "are_right_widths" P_are_right_widths 1 (sp_are_right_widths K ⟨csh, cst, cpa, cse⟩) := mk_df X G h_are_right_widths (fun F => F.binds (ps := P_are_right_widths) fun _ _ _ _ _ _ us hl => match us, hl with | [_], _ => rfl) (fun F => ok_are_right_widths F T)
    have D_sheet_refusal : Df P w K mg base "sheet_refusal" P_sheet_refusal 3 (sp_sheet_refusal K ⟨csh, cst, cpa, cse⟩) := mk_df X G h_sheet_refusal (fun F => F.binds (ps := P_sheet_refusal) fun _ _ _ _ _ _ us hl => match us, hl with | [_], _ => rfl) (fun F => ok_sheet_refusal F T D_are_right_widths D_width_of D_signs_of)
    have D_Setting_init : Idf P w K mg base cst P_Setting_init 1 (sp_Setting_init K ⟨csh, cst, cpa, cse⟩) := mk_idf h_Setting_init (fun F => F.binds (ps := P_Setting_init) fun _ _ _ _ _ _ us hl => match us, hl with | [_], _ => rfl) (fun F => ok_Setting_init F T)
    have D_Setting_put : Mdf P w K mg base cst "put" P_Setting_put 1 (sp_Setting_put K ⟨csh, cst, cpa, cse⟩) := mk_mdf h_Setting_put (fun F => F.binds (ps := P_Setting_put) fun _ _ _ _ _ _ us hl => match us, hl with | [_, _, _, _, _], _ => rfl) (fun F => ok_Setting_put F T)
    have D_Setting_leave : Mdf P w K mg base cst "leave" P_Setting_leave 1 (sp_Setting_leave K ⟨csh, cst, cpa, cse⟩) := mk_mdf h_Setting_leave (fun F => F.binds (ps := P_Setting_leave) fun _ _ _ _ _ _ us hl => match us, hl with | [_, _], _ => rfl) (fun F => ok_Setting_leave F T)
    have D_Setting_turn_column : Mdf P w K mg base cst "turn_column" P_Setting_turn_column 1 (sp_Setting_turn_column K ⟨csh, cst, cpa, cse⟩) := mk_mdf h_Setting_turn_column (fun F => F.binds (ps := P_Setting_turn_column) fun _ _ _ _ _ _ us hl => match us, hl with | [_], _ => rfl) (fun F => ok_Setting_turn_column F T)
    have D_main_of : Df P w K mg base "main_of" P_main_of 1 (sp_main_of K ⟨csh, cst, cpa, cse⟩) := mk_df X G h_main_of (fun F => F.binds (ps := P_main_of) fun _ _ _ _ _ _ us hl => match us, hl with | [_, _], _ => rfl) (fun F => ok_main_of F T)
    have D_lead_kept : Df P w K mg base "lead_kept" P_lead_kept 3 (sp_lead_kept K ⟨csh, cst, cpa, cse⟩) := mk_df X G h_lead_kept (fun F => F.binds (ps := P_lead_kept) fun _ _ _ _ _ _ us hl => match us, hl with | [_, _], _ => rfl) (fun F => ok_lead_kept F T D_width_of D_signs_of)
    have D_rows_alone : Df P w K mg base "rows_alone" P_rows_alone 1 (sp_rows_alone K ⟨csh, cst, cpa, cse⟩) := mk_df X G h_rows_alone (fun F => F.binds (ps := P_rows_alone) fun _ _ _ _ _ _ us hl => match us, hl with | [_], _ => rfl) (fun F => ok_rows_alone F T)
    have D_rows_needed : Df P w K mg base "rows_needed" P_rows_needed 2 (sp_rows_needed K ⟨csh, cst, cpa, cse⟩) := mk_df X G h_rows_needed (fun F => F.binds (ps := P_rows_needed) fun _ _ _ _ _ _ us hl => match us, hl with | [_, _, _, _], _ => rfl) (fun F => ok_rows_needed F T D_rows_alone)
    have D_begins_group : Df P w K mg base "begins_group" P_begins_group 1 (sp_begins_group K ⟨csh, cst, cpa, cse⟩) := mk_df X G h_begins_group (fun F => F.binds (ps := P_begins_group) fun _ _ _ _ _ _ us hl => match us, hl with | [_, _], _ => rfl) (fun F => ok_begins_group F T)
    have D_set_line : Df P w K mg base "set_line" P_set_line 4 (sp_set_line K ⟨csh, cst, cpa, cse⟩) := mk_df X G h_set_line (fun F => F.binds (ps := P_set_line) fun _ _ _ _ _ _ us hl => match us, hl with | [_, _, _, _, _, _], _ => rfl) (fun F => ok_set_line F T D_Setting_put D_Setting_turn_column D_rows_needed D_main_of D_lead_kept)
    have D_set_all : Df P w K mg base "set_all" P_set_all 5 (sp_set_all K ⟨csh, cst, cpa, cse⟩) := mk_df X G h_set_all (fun F => F.binds (ps := P_set_all) fun _ _ _ _ _ _ us hl => match us, hl with | [_, _, _], _ => rfl) (fun F => ok_set_all F T D_Setting_init D_begins_group D_Setting_leave D_set_line)
    have D_text_end : Df P w K mg base "text_end" P_text_end 1 (sp_text_end K ⟨csh, cst, cpa, cse⟩) := mk_df X G h_text_end (fun F => F.binds (ps := P_text_end) fun _ _ _ _ _ _ us hl => match us, hl with | [_], _ => rfl) (fun F => ok_text_end F T)
    have D_line_begin : Df P w K mg base "line_begin" P_line_begin 1 (sp_line_begin K ⟨csh, cst, cpa, cse⟩) := mk_df X G h_line_begin (fun F => F.binds (ps := P_line_begin) fun _ _ _ _ _ _ us hl => match us, hl with | [_, _], _ => rfl) (fun F => ok_line_begin F T)
    have D_is_break : Df P w K mg base "is_break" P_is_break 1 (sp_is_break K ⟨csh, cst, cpa, cse⟩) := mk_df X G h_is_break (fun F => F.binds (ps := P_is_break) fun _ _ _ _ _ _ us hl => match us, hl with | [_, _, _], _ => rfl) (fun F => ok_is_break F T)
    have D_best_or : Df P w K mg base "best_or" P_best_or 1 (sp_best_or K ⟨csh, cst, cpa, cse⟩) := mk_df X G h_best_or (fun F => F.binds (ps := P_best_or) fun _ _ _ _ _ _ us hl => match us, hl with | [_, _], _ => rfl) (fun F => ok_best_or F T)
    have D_line_end : Df P w K mg base "line_end" P_line_end 2 (sp_line_end K ⟨csh, cst, cpa, cse⟩) := mk_df X G h_line_end (fun F => F.binds (ps := P_line_end) fun _ _ _ _ _ _ us hl => match us, hl with | [_, _, _, _], _ => rfl) (fun F => ok_line_end F T D_best_or D_is_break)
    have D_text_lines : Df P w K mg base "text_lines" P_text_lines 3 (sp_text_lines K ⟨csh, cst, cpa, cse⟩) := mk_df X G h_text_lines (fun F => F.binds (ps := P_text_lines) fun _ _ _ _ _ _ us hl => match us, hl with | [_, _, _], _ => rfl) (fun F => ok_text_lines F T D_text_end D_line_begin D_line_end D_room_of)
    have D_Paragraph_init : Idf P w K mg base cpa P_Paragraph_init 1 (sp_Paragraph_init K ⟨csh, cst, cpa, cse⟩) := mk_idf h_Paragraph_init (fun F => F.binds (ps := P_Paragraph_init) fun _ _ _ _ _ _ us hl => match us, hl with | [_, _], _ => rfl) (fun F => ok_Paragraph_init F T)
    have D_is_right : Df P w K mg base "is_right" P_is_right 1 (sp_is_right K ⟨csh, cst, cpa, cse⟩) := mk_df X G h_is_right (fun F => F.binds (ps := P_is_right) fun _ _ _ _ _ _ us hl => match us, hl with | [_, _], _ => rfl) (fun F => ok_is_right F T)
    have D_first_wrong : Df P w K mg base "first_wrong" P_first_wrong 2 (sp_first_wrong K ⟨csh, cst, cpa, cse⟩) := mk_df X G h_first_wrong (fun F => F.binds (ps := P_first_wrong) fun _ _ _ _ _ _ us hl => match us, hl with | [_], _ => rfl) (fun F => ok_first_wrong F T D_is_right)
    have D_are_blanks : Df P w K mg base "are_blanks" P_are_blanks 1 (sp_are_blanks K ⟨csh, cst, cpa, cse⟩) := mk_df X G h_are_blanks (fun F => F.binds (ps := P_are_blanks) fun _ _ _ _ _ _ us hl => match us, hl with | [_], _ => rfl) (fun F => ok_are_blanks F T)
    have D_first_blank : Df P w K mg base "first_blank" P_first_blank 3 (sp_first_blank K ⟨csh, cst, cpa, cse⟩) := mk_df X G h_first_blank (fun F => F.binds (ps := P_first_blank) fun _ _ _ _ _ _ us hl => match us, hl with | [_, _], _ => rfl) (fun F => ok_first_blank F T D_are_blanks D_signs_of)
    have D_all_lines : Df P w K mg base "all_lines" P_all_lines 4 (sp_all_lines K ⟨csh, cst, cpa, cse⟩) := mk_df X G h_all_lines (fun F => F.binds (ps := P_all_lines) fun _ _ _ _ _ _ us hl => match us, hl with | [_, _], _ => rfl) (fun F => ok_all_lines F T D_text_lines D_signs_of)
    have D_first_none : Df P w K mg base "first_none" P_first_none 1 (sp_first_none K ⟨csh, cst, cpa, cse⟩) := mk_df X G h_first_none (fun F => F.binds (ps := P_first_none) fun _ _ _ _ _ _ us hl => match us, hl with | [_], _ => rfl) (fun F => ok_first_none F T)
    have D_character_count : Df P w K mg base "character_count" P_character_count 1 (sp_character_count K ⟨csh, cst, cpa, cse⟩) := mk_df X G h_character_count (fun F => F.binds (ps := P_character_count) fun _ _ _ _ _ _ us hl => match us, hl with | [_], _ => rfl) (fun F => ok_character_count F T)
    have D_Setter_init : Idf P w K mg base cse P_Setter_init 4 (sp_Setter_init K ⟨csh, cst, cpa, cse⟩) := mk_idf h_Setter_init (fun F => F.binds (ps := P_Setter_init) fun _ _ _ _ _ _ us hl => match us, hl with | [_], _ => rfl) (fun F => ok_Setter_init F T D_first_sheet)
    have D_Setter_take_sheet : Mdf P w K mg base cse "take_sheet" P_Setter_take_sheet 4 (sp_Setter_take_sheet K ⟨csh, cst, cpa, cse⟩) := mk_mdf h_Setter_take_sheet (fun F => F.binds (ps := P_Setter_take_sheet) fun _ _ _ _ _ _ us hl => match us, hl with | [_, _, _], _ => rfl) (fun F => ok_Setter_take_sheet F T D_Sheet_init D_sheet_refusal)
    have D_Setter_take_paragraphs : Mdf P w K mg base cse "take_paragraphs" P_Setter_take_paragraphs 6 (sp_Setter_take_paragraphs K ⟨csh, cst, cpa, cse⟩) := mk_mdf h_Setter_take_paragraphs (fun F => F.binds (ps := P_Setter_take_paragraphs) fun _ _ _ _ _ _ us hl => match us, hl with | [_, _, _], _ => rfl) (fun F => ok_Setter_take_paragraphs F T D_first_wrong D_first_blank D_all_lines D_first_none D_set_all D_Paragraph_init D_character_count)
    have D_Setter_tell_line : Mdf P w K mg base cse "tell_line" P_Setter_tell_line 1 (sp_Setter_tell_line K ⟨csh, cst, cpa, cse⟩) := mk_mdf h_Setter_tell_line (fun F => F.binds (ps := P_Setter_tell_line) fun _ _ _ _ _ _ us hl => match us, hl with | [_, _, _], _ => rfl) (fun F => ok_Setter_tell_line F T)
    have D_Setter_tell_where : Mdf P w K mg base cse "tell_where" P_Setter_tell_where 1 (sp_Setter_tell_where K ⟨csh, cst, cpa, cse⟩) := mk_mdf h_Setter_tell_where (fun F => F.binds (ps := P_Setter_tell_where) fun _ _ _ _ _ _ us hl => match us, hl with | [_, _, _], _ => rfl) (fun F => ok_Setter_tell_where F T)
    have D_Setter_tell_columns : Mdf P w K mg base cse "tell_columns" P_Setter_tell_columns 1 (sp_Setter_tell_columns K ⟨csh, cst, cpa, cse⟩) := mk_mdf h_Setter_tell_columns (fun F => F.binds (ps := P_Setter_tell_columns) fun _ _ _ _ _ _ us hl => match us, hl with | [_, _, _], _ => rfl) (fun F => ok_Setter_tell_columns F T)
    have D_answer : Df P w K mg base "answer" P_answer 7 (sp_answer K ⟨csh, cst, cpa, cse⟩) := mk_df X G h_answer (fun F => F.binds (ps := P_answer) fun _ _ _ _ _ _ us hl => match us, hl with | [_, _, _, _], _ => rfl) (fun F => ok_answer F T D_Setter_tell_columns D_Setter_take_sheet D_Setter_take_paragraphs D_Setter_tell_line D_Setter_tell_where)
    have D_lists_at : Df P w K mg base "lists_at" P_lists_at 1 (sp_lists_at K ⟨csh, cst, cpa, cse⟩) := mk_df X G h_lists_at (fun F => F.binds (ps := P_lists_at) fun _ _ _ _ _ _ us hl => match us, hl with | [_, _], _ => rfl) (fun F => ok_lists_at F T)
    have R := ok_answers (P := P) (w := w) (base := base) F0 T D_Setter_init D_lists_at D_answer
    exact R
end HC

open PySem PySem.W PyProof.Rows
set_option maxRecDepth 100000 in
set_option maxHeartbeats 0 in
theorem PySem.Challenge.cw_headcolumns_s01_answers_holds : PySem.Challenge.rw_headcolumns_s01_answers.Holds := by
  w_on; k_headS; (case hw => exact ⟨[.list [.int 5, .int 0, .int 0]], by decide +kernel, by decide +kernel⟩)
  k_fillS
  refine L2.walk_specK (r := PySem.Challenge.rw_headcolumns_s01_answers) (k := 8) (CX := L2.CX0) (ps := ["calls"]) (sp := HC.spTop) (by decide +kernel) rfl rfl ⟨rfl, by decide, by decide⟩ (fun w h Y => PySem.W.kIn_of Y) ?F ?S (fun _ _ _ _ z => z)
  case F =>
    intro w mg fa h Y KX G hmg
    refine' HC.all_mk KX G hmg ?ash ?ast ?apa ?ase ?lsh ?lst ?lpa ?lse ?nsh_width ?nsh_height ?nsh_indents ?nsh_turn ?nsh_gap ?nsh_widths ?nsh_cut ?nst_lines ?nst_column ?nst_row ?npa_depth ?npa_group ?npa_lead ?npa_text ?nse_sheet ?nse_paragraphs ?nse_lines ?z_len ?z_range ?z_sum ?z_list ?z_max ?z_enumerate ?k_PLAIN ?k_BLANK ?k_BREAK ?k_LEAST_HEIGHT ?k_MOST_HEIGHT ?k_MOST_GAP ?k_MOST_WIDTH ?k_MOST_WIDTHS ?k_MOST_CUT ?k_MOST_DEPTH ?k_MOST_TEXT ?k_MOST_CHARACTERS ?k_MOST_LINES ?h_Sheet_init ?h_first_sheet ?h_sign_of ?h_signs_of ?h_width_of ?h_room_of ?h_are_right_widths ?h_sheet_refusal ?h_Setting_init ?h_Setting_put ?h_Setting_leave ?h_Setting_turn_column ?h_main_of ?h_lead_kept ?h_rows_alone ?h_rows_needed ?h_begins_group ?h_set_line ?h_set_all ?h_text_end ?h_line_begin ?h_is_break ?h_best_or ?h_line_end ?h_text_lines ?h_Paragraph_init ?h_is_right ?h_first_wrong ?h_are_blanks ?h_first_blank ?h_all_lines ?h_first_none ?h_character_count ?h_Setter_init ?h_Setter_take_sheet ?h_Setter_take_paragraphs ?h_Setter_tell_line ?h_Setter_tell_where ?h_Setter_tell_columns ?h_answer ?h_lists_at ?h_answers
    (case ash => k_is)
    (case ast => k_is)
    (case apa => k_is)
    (case ase => k_is)
    (case lsh => refine' L2.Cls.mk ?a1 ?a2 ?a3 ?a4; (case a1 => k_is); (case a2 => k_is); (case a3 => k_is); (case a4 => k_is))
    (case lst => refine' L2.Cls.mk ?a1 ?a2 ?a3 ?a4; (case a1 => k_is); (case a2 => k_is); (case a3 => k_is); (case a4 => k_is))
    (case lpa => refine' L2.Cls.mk ?a1 ?a2 ?a3 ?a4; (case a1 => k_is); (case a2 => k_is); (case a3 => k_is); (case a4 => k_is))
    (case lse => refine' L2.Cls.mk ?a1 ?a2 ?a3 ?a4; (case a1 => k_is); (case a2 => k_is); (case a3 => k_is); (case a4 => k_is))
    (case nsh_width => k_is)
    (case nsh_height => k_is)
    (case nsh_indents => k_is)
    (case nsh_turn => k_is)
    (case nsh_gap => k_is)
    (case nsh_widths => k_is)
    (case nsh_cut => k_is)
    (case nst_lines => k_is)
    (case nst_column => k_is)
    (case nst_row => k_is)
    (case npa_depth => k_is)
    (case npa_group => k_is)
    (case npa_lead => k_is)
    (case npa_text => k_is)
    (case nse_sheet => k_is)
    (case nse_paragraphs => k_is)
    (case nse_lines => k_is)
    (case z_len => k_is)
    (case z_range => k_is)
    (case z_sum => k_is)
    (case z_list => k_is)
    (case z_max => k_is)
    (case z_enumerate => k_is)
    (case k_PLAIN => refine' HC.cst_at ?a; (case a => k_is))
    (case k_BLANK => refine' HC.cst_at ?a; (case a => k_is))
    (case k_BREAK => refine' HC.cst_at ?a; (case a => k_is))
    (case k_LEAST_HEIGHT => refine' HC.cst_at ?a; (case a => k_is))
    (case k_MOST_HEIGHT => refine' HC.cst_at ?a; (case a => k_is))
    (case k_MOST_GAP => refine' HC.cst_at ?a; (case a => k_is))
    (case k_MOST_WIDTH => refine' HC.cst_at ?a; (case a => k_is))
    (case k_MOST_WIDTHS => refine' HC.cst_at ?a; (case a => k_is))
    (case k_MOST_CUT => refine' HC.cst_at ?a; (case a => k_is))
    (case k_MOST_DEPTH => refine' HC.cst_at ?a; (case a => k_is))
    (case k_MOST_TEXT => refine' HC.cst_at ?a; (case a => k_is))
    (case k_MOST_CHARACTERS => refine' HC.cst_at ?a; (case a => k_is))
    (case k_MOST_LINES => refine' HC.cst_at ?a; (case a => k_is))
    (case h_Sheet_init => refine' HC.in_at ?m ?a ?i ?kc ?l ?c ?k; (case m => k_is); (case a => k_is); (case i => k_is); (case kc => k_is); (case l => k_is); (case c => k_is); (case k => k_is))
    (case h_first_sheet => refine' HC.fn_at ?a ?l ?c ?k; (case a => k_is); (case l => k_is); (case c => k_is); (case k => k_is))
    (case h_sign_of => refine' HC.fn_at ?a ?l ?c ?k; (case a => k_is); (case l => k_is); (case c => k_is); (case k => k_is))
    (case h_signs_of => refine' HC.fn_at ?a ?l ?c ?k; (case a => k_is); (case l => k_is); (case c => k_is); (case k => k_is))
    (case h_width_of => refine' HC.fn_at ?a ?l ?c ?k; (case a => k_is); (case l => k_is); (case c => k_is); (case k => k_is))
    (case h_room_of => refine' HC.fn_at ?a ?l ?c ?k; (case a => k_is); (case l => k_is); (case c => k_is); (case k => k_is))
    (case h_are_right_widths => refine' HC.fn_at ?a ?l ?c ?k; (case a => k_is); (case l => k_is); (case c => k_is); (case k => k_is))
    (case h_sheet_refusal => refine' HC.fn_at ?a ?l ?c ?k; (case a => k_is); (case l => k_is); (case c => k_is); (case k => k_is))
    (case h_Setting_init => refine' HC.in_at ?m ?a ?i ?kc ?l ?c ?k; (case m => k_is); (case a => k_is); (case i => k_is); (case kc => k_is); (case l => k_is); (case c => k_is); (case k => k_is))
    (case h_Setting_put => refine' HC.mt_at ?a ?i ?l ?c ?k; (case a => k_is); (case i => k_is); (case l => k_is); (case c => k_is); (case k => k_is))
    (case h_Setting_leave => refine' HC.mt_at ?a ?i ?l ?c ?k; (case a => k_is); (case i => k_is); (case l => k_is); (case c => k_is); (case k => k_is))
    (case h_Setting_turn_column => refine' HC.mt_at ?a ?i ?l ?c ?k; (case a => k_is); (case i => k_is); (case l => k_is); (case c => k_is); (case k => k_is))
    (case h_main_of => refine' HC.fn_at ?a ?l ?c ?k; (case a => k_is); (case l => k_is); (case c => k_is); (case k => k_is))
    (case h_lead_kept => refine' HC.fn_at ?a ?l ?c ?k; (case a => k_is); (case l => k_is); (case c => k_is); (case k => k_is))
    (case h_rows_alone => refine' HC.fn_at ?a ?l ?c ?k; (case a => k_is); (case l => k_is); (case c => k_is); (case k => k_is))
    (case h_rows_needed => refine' HC.fn_at ?a ?l ?c ?k; (case a => k_is); (case l => k_is); (case c => k_is); (case k => k_is))
    (case h_begins_group => refine' HC.fn_at ?a ?l ?c ?k; (case a => k_is); (case l => k_is); (case c => k_is); (case k => k_is))
    (case h_set_line => refine' HC.fn_at ?a ?l ?c ?k; (case a => k_is); (case l => k_is); (case c => k_is); (case k => k_is))
    (case h_set_all => refine' HC.fn_at ?a ?l ?c ?k; (case a => k_is); (case l => k_is); (case c => k_is); (case k => k_is))
    (case h_text_end => refine' HC.fn_at ?a ?l ?c ?k; (case a => k_is); (case l => k_is); (case c => k_is); (case k => k_is))
    (case h_line_begin => refine' HC.fn_at ?a ?l ?c ?k; (case a => k_is); (case l => k_is); (case c => k_is); (case k => k_is))
    (case h_is_break => refine' HC.fn_at ?a ?l ?c ?k; (case a => k_is); (case l => k_is); (case c => k_is); (case k => k_is))
    (case h_best_or => refine' HC.fn_at ?a ?l ?c ?k; (case a => k_is); (case l => k_is); (case c => k_is); (case k => k_is))
    (case h_line_end => refine' HC.fn_at ?a ?l ?c ?k; (case a => k_is); (case l => k_is); (case c => k_is); (case k => k_is))
    (case h_text_lines => refine' HC.fn_at ?a ?l ?c ?k; (case a => k_is); (case l => k_is); (case c => k_is); (case k => k_is))
    (case h_Paragraph_init => refine' HC.in_at ?m ?a ?i ?kc ?l ?c ?k; (case m => k_is); (case a => k_is); (case i => k_is); (case kc => k_is); (case l => k_is); (case c => k_is); (case k => k_is))
    (case h_is_right => refine' HC.fn_at ?a ?l ?c ?k; (case a => k_is); (case l => k_is); (case c => k_is); (case k => k_is))
    (case h_first_wrong => refine' HC.fn_at ?a ?l ?c ?k; (case a => k_is); (case l => k_is); (case c => k_is); (case k => k_is))
    (case h_are_blanks => refine' HC.fn_at ?a ?l ?c ?k; (case a => k_is); (case l => k_is); (case c => k_is); (case k => k_is))
    (case h_first_blank => refine' HC.fn_at ?a ?l ?c ?k; (case a => k_is); (case l => k_is); (case c => k_is); (case k => k_is))
    (case h_all_lines => refine' HC.fn_at ?a ?l ?c ?k; (case a => k_is); (case l => k_is); (case c => k_is); (case k => k_is))
    (case h_first_none => refine' HC.fn_at ?a ?l ?c ?k; (case a => k_is); (case l => k_is); (case c => k_is); (case k => k_is))
    (case h_character_count => refine' HC.fn_at ?a ?l ?c ?k; (case a => k_is); (case l => k_is); (case c => k_is); (case k => k_is))
    (case h_Setter_init => refine' HC.in_at ?m ?a ?i ?kc ?l ?c ?k; (case m => k_is); (case a => k_is); (case i => k_is); (case kc => k_is); (case l => k_is); (case c => k_is); (case k => k_is))
    (case h_Setter_take_sheet => refine' HC.mt_at ?a ?i ?l ?c ?k; (case a => k_is); (case i => k_is); (case l => k_is); (case c => k_is); (case k => k_is))
    (case h_Setter_take_paragraphs => refine' HC.mt_at ?a ?i ?l ?c ?k; (case a => k_is); (case i => k_is); (case l => k_is); (case c => k_is); (case k => k_is))
    (case h_Setter_tell_line => refine' HC.mt_at ?a ?i ?l ?c ?k; (case a => k_is); (case i => k_is); (case l => k_is); (case c => k_is); (case k => k_is))
    (case h_Setter_tell_where => refine' HC.mt_at ?a ?i ?l ?c ?k; (case a => k_is); (case i => k_is); (case l => k_is); (case c => k_is); (case k => k_is))
    (case h_Setter_tell_columns => refine' HC.mt_at ?a ?i ?l ?c ?k; (case a => k_is); (case i => k_is); (case l => k_is); (case c => k_is); (case k => k_is))
    (case h_answer => refine' HC.fn_at ?a ?l ?c ?k; (case a => k_is); (case l => k_is); (case c => k_is); (case k => k_is))
    (case h_lists_at => refine' HC.fn_at ?a ?l ?c ?k; (case a => k_is); (case l => k_is); (case c => k_is); (case k => k_is))
    (case h_answers => refine' HC.fn_at ?a ?l ?c ?k; (case a => k_is); (case l => k_is); (case c => k_is); (case k => k_is))
  case S =>
    intro K H xs a hO hwi hask hx
    cases hx with
    | cons h1 h2 =>
      cases h2
      cases h1 with
      | lst hs ha =>
        have e := L2.ints_dw a.1 _ ha
        subst e
        have q : ((Codec.inLen 0 31000 a.1 && a.1.all (Codec.inInt 0 4294967295)) && true) = true := hwi
        rw [Bool.and_eq_true, Bool.and_eq_true] at q
        exact ⟨_, a.1, rfl, hs, (Codec.inNat_iff.mp q.1.1).2, fun z hz => (Codec.inInt_iff.mp (List.all_eq_true.mp q.1.2 z hz)).1, hask, fun H' p hp => .lst (L2.SqL.of hp) (L2.dw_ints _)⟩
#print axioms PySem.Challenge.cw_headcolumns_s01_answers_holds
